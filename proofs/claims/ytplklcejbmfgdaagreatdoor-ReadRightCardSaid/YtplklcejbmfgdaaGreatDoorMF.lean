/-
  The plain law of amounts: pieces between colons, parts, sums. The plain law of amounts, there and back. Amounts: the equations of the program's functions and of the document's, as the evaluator prints them. Amounts: what the program's functions and the document's answer. Amounts: how they are written, by the program and by the document. Amounts: how they are read, by the program and by the document. Amounts that are written, read again: those above nought.
-/
import Derived.Test.YtplklcejbmfgdaaGreatDoorMC
import Derived.Lib.Split
import Derived.Test.YtplklcejbmfgdaaGreatDoorMS
set_option linter.unusedVariables false
set_option linter.unusedSimpArgs false
set_option linter.unusedSectionVars false
namespace Nt.aO
open Go Go.RowKit Nt Nt.Num
def pieces:List UInt8→List (List UInt8)
 |[]=>[[]]
 |c::l=>if c==58 then[]::pieces l else(c::(pieces l).headD [])::(pieces l).tail
def least (i:Nat):Nat:=if i=0 then 1 else 2
def most (i:Nat):Nat:=if i=0 then 3 else 2
def unit (i:Nat):Nat:=if i=0 then 3600 else if i=1 then 60 else 1
def ok (l:List UInt8) (least most:Nat):Bool:=decide (least≤l.length)&&decide (l.length≤most)&&l.all isDigit
def part (l:List UInt8) (least most:Nat):Int×Bool:=if ok l least most then((val l:Nat),true) else(0,false)
def vZ (P:List (List UInt8)):Nat→Bool
 |0=>true
 |k+1=>vZ P k&&ok (P.getD k []) (least k) (most k)
def rR (P:List (List UInt8)):Nat→Bool
 |0=>true
 |k+1=>rR P k&&(decide (k=0)||decide (val (P.getD k [])≤59))
def CX (P:List (List UInt8)):Nat→Nat
 |0=>0
 |k+1=>CX P k+val (P.getD k [])*unit k
def told (P:List (List UInt8)) (below:Bool):Int×Int:=
 if decide (3<P.length)|| !vZ P P.length then(0,2)
 else if !rR P P.length||decide (604800≤CX P P.length) then(0,1)
 else(if below then -(CX P P.length:Int) else(CX P P.length:Int),0)
def read (l:List UInt8):Int×Int:=if l=[45] then(0,0) else told (pieces (bare l)) (minus l)
def two (n:Nat):List UInt8:=[digit (n/10),digit (n%10)]
def text (n:Int):List UInt8×Int:=
 if n≤ -604800∨604800≤n then([],1)
 else if n=0 then([48],0)
 else((if n<0 then[45] else[])++wR (n.natAbs/3600)++[58]++two (n.natAbs/60%60)++(if 0<n.natAbs%60 then 58::two (n.natAbs%60) else[]),0)
theorem Zk (P:List (List UInt8)) (k:Nat): ∀m,k≤m→vZ P m=true→vZ P k=true:=by
 intro m;induction m with
 |zero=>
    intro h hg;have e:k=0:=by omega
    rw[e];exact hg
 |succ m ih=>
  intro h hg;by_cases e:k=m+1
  ·rw[e];exact hg
  ·unfold vZ at hg
   rw[Bool.and_eq_true] at hg;exact ih (by omega) hg.1
theorem zN: ∀(s:List UInt8),Lib.splitK [58] 0 (Lib.count s [58]) s=pieces s
 |[]=>by
  have h:Lib.index [] [58]= -1:=by decide
  rw[Lib.count_miss h];rfl
 |c::l=>by
  have ih:=zN l;by_cases hc:c=58
  ·subst hc
   have h:Lib.index (58::l) [58]=(0:Nat):=by unfold Lib.index;simp
   rw[Lib.count_hit (by simp) h,Nat.add_comm 1];unfold Lib.splitK;rw[if_neg (by rw[h];decide),h];have e1:List.take (Int.toNat (((0:Nat):Int))+0) (58::l)=([]:List UInt8):=rfl;have e2:List.drop (Int.toNat (((0:Nat):Int))+[(58:UInt8)].length) (58::l)=l:=rfl;have e3:List.drop (0+[(58:UInt8)].length) (58::l)=l:=rfl;rw[e1,e2,e3,ih];conv=>rhs;unfold pieces
   rw[if_pos (by rfl)]
  ·have hp:([58]:List UInt8).isPrefixOf (c::l)=false:=by
    simp only[List.isPrefixOf,Bool.and_true,beq_eq_false_iff_ne];exact fun e=>hc e.symm
   have hpc:pieces (c::l)=(c::(pieces l).headD [])::(pieces l).tail:=by
    conv=>lhs;unfold pieces
    rw[if_neg (by simpa using hc)]
   by_cases hi:Lib.index l [58]= -1
   ·have h:Lib.index (c::l) [58]= -1:=by
     unfold Lib.index;rw[hp,hi];rfl
    rw[Lib.count_miss h,hpc,←ih,Lib.count_miss hi];rfl
   ·have hge:=Lib.index_ge l [58]
    obtain⟨i,hi'⟩: ∃i:Nat,Lib.index l [58]=i:=⟨(Lib.index l [58]).toNat,by omega⟩
    have h:Lib.index (c::l) [58]=((i+1:Nat):Int):=by
     unfold Lib.index;rw[hp,hi'];simp only[Bool.false_eq_true,if_false];rw[if_neg (by rw[beq_iff_eq];omega)];rfl
    rw[Lib.count_hit (by simp) hi',Nat.add_comm 1] at ih;rw[Lib.count_hit (by simp) h,Nat.add_comm 1,hpc,←ih];unfold Lib.splitK;rw[if_neg (by rw[h,beq_iff_eq];omega),h,if_neg (by rw[hi',beq_iff_eq];omega),hi'];simp only[Int.toNat_natCast,Nat.add_zero,List.take_succ_cons,List.headD_cons,List.tail_cons,List.length_singleton,List.drop_succ_cons]
end Nt.aO
namespace Nt.Ev.YtplklcejbmfgdaaGreatDoor
set_option maxRecDepth 100000
open Go Nt.Num Go.Proofs.YtplklcejbmfgdaaGreatDoor
noncomputable def lD (s:List UInt8):List V:=bL (aO.pieces s)
noncomputable def pok (s:List UInt8) (l m:Int):Bool:=decide (l≤(s.length:Int))&&decide ((s.length:Int)≤m)&&s.all isDigit
noncomputable def BK (s:List UInt8) (l m:Int):Int:=if pok s l m then(val s:Int) else 0
noncomputable def D5 (s:List UInt8) (l m:Int):Bool:=pok s l m
noncomputable def TM (n:Int):List UInt8:=aO.two n.toNat
noncomputable def TN (n:Int):List UInt8:=(aO.text n).1
variable [mJ]
noncomputable def Px:V:=.rptr [.int .i64,.int .i64,.int .i64,.int .i64,.int .i64,.int .i64,.int .i64,.int .i64,.int .i64] (.agg [.int .i64 1,.int .i64 3,.int .i64 3600,.int .i64 2,.int .i64 2,.int .i64 60,.int .i64 2,.int .i64 2,.int .i64 1]) 0
noncomputable def aE:Env:=⟨Go.Proofs.Tryz.prog,fun g=>bif g==4 then some Px else bif g==3 then some (.rptr [.int .i64] (.int .i64 mJ.val) 0) else none⟩
noncomputable def Rz (m:Int):Bool:=ak (ai (-9223372036854775808) m) (ai m 9223372036854775807)
noncomputable def textS:aF:=fun a=>match a with|[.int .i64 m]=>some (Rz m,.str (text m))|_=>none
noncomputable def X4:aF:=fun a=>match a with|[.str s,.str sep]=>some (ak (seq sep [58]) (ai (aj s) 1000),.sl 9 [.str] none (lD s))|_=>none
noncomputable def readS:aF:=fun a=>match a with|[.agg [.int .i64 l,.int .i64 m,.int .i64 u],.str s]=>some (ak (ai 1 l) (ai m 3),.tup [.int .i64 (BK s l m),.bool (D5 s l m)])|_=>none
noncomputable def twoA:aF:=fun a=>match a with|[.int .i64 n]=>some (ak (ai 0 n) (ai n 59),.str (jX [58] (TM n)))|_=>none
noncomputable def posS (b:Bool):aF:=fun a=>match a with|[.int .i64 n]=>some (ak b (ak (ai 1 n) (ai n 604799)),.tup [.str (TN n),.int .i64 0])|_=>none
noncomputable def aS:List (Nat×aF):=(63,textS)::(170,X4)::[]
noncomputable def bS:List (Nat×aF):=(171,readS)::aS
noncomputable def tS:List (Nat×aF):=(80,twoA)::aS
noncomputable def uS (b:Bool):List (Nat×aF):=(60,posS b)::tS
noncomputable def ze (F:Nat) (ns:List Nat) (n:Nat) (mK mM p8:Int) (x1:List UInt8) (x4:Int) (x5:Bool) (x6:Int) (V8:List V) (Lc x24 lI jY ny:Int) (K:V→Option V):Option V:=
 iA aE aS F 1 171 [1,1,1,0,1,0] ns K n (mH 42 [(0,V.agg [V.int .i64 mK,V.int .i64 mM,V.int .i64 p8]),(1,V.str x1),(2,V.box 2 0),(4,V.int .i64 x4),(5,V.bool x5),(6,V.int .i64 x6),(22,V.sl 5 [Kd.int .u8] none V8),(23,V.int .i64 Lc),(24,V.int .i64 x24)] [(2,[V.int .i64 lI,V.int .i64 jY,V.int .i64 ny])])
theorem U3 (F:Nat) (s:List UInt8) (l m u:Int) (K:V→Option V):
 cr aE (bV aE aS F 1) F 171 [V.agg [V.int .i64 l,V.int .i64 m,V.int .i64 u],V.str s] K=
 let A:=K (V.tup [V.int .i64 0,V.bool false]);sel (aT (aj s) l) A (sel (aT m (aj s)) A (sel (GN s) (ze F [] F l m u s 0 false 0 (aJ s) (av (aJ s)) 0 l m u K) none)):=by kernel_rfl
theorem Gx (F n:Nat) (mK mM p8:Int) (x1:List UInt8) (x4:Int) (x5:Bool) (x6:Int) (V8:List V) (Lc x24 lI jY ny:Int) (K:V→Option V):
 ze F [] (n+1) mK mM p8 x1 x4 x5 x6 V8 Lc x24 lI jY ny K=
 let A:=asInt (ax (aP V8 x24) 0);let B:=K (V.tup [V.int .i64 0,V.bool false]);sel (aT x24 Lc) (sel (ak (ai 0 x24) (aT x24 (av V8))) (sel (aT A 48) B (sel (aT 57 A) B (ze F [] n mK mM p8 x1 x4 x5 (fB .i64 (DK .i64 x6 10) (pq .i64 (iX .u8 A 48))) V8 Lc (fB .i64 x24 1) lI jY ny K))) none) (K (V.tup [V.int .i64 x6,V.bool true])):=by kernel_rfl
theorem Zl (F:Nat) (n:Int) (K:V→Option V):
 cr aE (bV aE aS F 2) F 80 [V.int .i64 n] K=
 let A:=qQ .i64 n 10;let B:=wP n 10;let C:=jX [58] (text A);sel (ak (ai (-9223372036854775808) A) (ai A 9223372036854775807)) (sel (kS [58] (text A)) (sel (ak (ai (-9223372036854775808) B) (ai B 9223372036854775807)) (sel (kS C (text B)) (K (V.str (jX C (text B)))) none) none) none) none:=by kernel_rfl
theorem IL (bb:Bool) (F:Nat) (m:Int) (K:V→Option V):
 cr aE (bV aE (uS bb) F 2) F 60 [V.int .i64 m] K=
 let B:=qQ .i64 (wP m 3600) 60;let C:=qQ .i64 m 3600;let D:=iX .i64 0 m;let E:=wP m 60;let G:=K (V.tup [V.str [],V.int .i64 1]);let H:=V.int .i64 0;let I:=jX [58] (TM B);let J:=jX [58] (TM E);let A:=jX (text C) I;sel (ai m (-604800)) G (sel (ai 604800 m) G (sel (ieq m 0) (sel (ak (ai (-9223372036854775808) m) (ai m 9223372036854775807)) (K (V.tup [V.str (text m),H])) none) (sel (aT m 0) (sel (ak bb (ak (ai 1 D) (ai D 604799))) (sel (kS [45] (TN D)) (K (V.tup [V.str (jX [45] (TN D)),H])) none) none) (sel (ak (ai (-9223372036854775808) C) (ai C 9223372036854775807)) (sel (ak (ai 0 B) (ai B 59)) (sel (kS (text C) I) (sel (aT 0 E) (sel (ak (ai 0 E) (ai E 59)) (sel (kS A J) (K (V.tup [V.str (jX A J),H])) none) none) (K (V.tup [V.str A,H]))) none) none) none)))):=by kernel_rfl
noncomputable def oN (F:Nat) (ns:List Nat) (n:Nat) (x0:List UInt8) (x2 x3:Int) (x4:List UInt8) (x5:Bool) (x6:List V) (x7 x8:Int) (x28:List V) (x29 x30:Int) (K:V→Option V):Option V:=
 iA aE bS F 3 148 [1,1,1,1,1,1,1,0,1,0] ns K n (mH 72 [(0,V.str x0),(2,V.int .i64 x2),(3,V.int .i64 x3),(4,V.str x4),(5,V.bool x5),(6,V.sl 9 [Kd.str] none x6),(7,V.int .i64 x7),(8,V.int .i64 x8),(28,V.sl 9 [Kd.str] none x28),(29,V.int .i64 x29),(30,V.int .i64 x30)] [])
theorem U4 (F:Nat) (s:List UInt8) (K:V→Option V):
 cr aE (bV aE bS F 3) F 148 [V.str s] K=
 let C:=aj [45];let H:=lD s;let I:=V.int .i64 0;let B:=dF s C (aj s);let D:=K (V.tup [I,V.int .i64 2]);let E:=ak (ai 0 C) (ai C (aj s));let A:=sel (ak (seq [58] [58]) (ai (aj s) 1000)) (sel (aT 3 (av H)) D (oN F [] F s 0 0 s false H 0 0 H (av H) 0 K)) (none);let G:=lD B;sel (ai C (aj s)) (sel E (sel (aG (seq (dF s 0 C) [45])) A (sel E (sel (seq B []) (K (V.tup [I,I])) (sel (ak (seq [58] [58]) (ai (aj B) 1000)) (sel (aT 3 (av G)) D (oN F [] F s 0 0 B true G 0 0 G (av G) 0 K)) none)) none)) none) A:=by kernel_rfl
theorem Gy (F n:Nat) (x0:List UInt8) (x2 x3:Int) (x4:List UInt8) (x5:Bool) (x6:List V) (x7 x8:Int) (x28:List V) (x29 x30:Int) (K:V→Option V):
 oN F [] (n+1) x0 x2 x3 x4 x5 x6 x7 x8 x28 x29 x30 K=
 let E:=ak (ai 0 x30) (aT x30 3);let G:=V.int .i64 0;let H:=V.int .i64 2;let I:=V.int .i64 1;let M:=aR (ax (aP x28 x30) 0);let O:=fB .i64 x30 1;let A:=aP [V.agg [I,V.int .i64 3,V.int .i64 3600],V.agg [H,H,V.int .i64 60],V.agg [H,H,I]] x30;let N:=K (V.tup [G,I]);let J:=asInt (ax A 0);let L:=asInt (ax A 1);let D:=BK M J L;let B:=fB .i64 x8 (DK .i64 D (asInt (ax A 2)));let C:=sel E (oN F [] n x0 x2 x3 x4 x5 x6 x7 B x28 x29 O K) (none);sel (aT x30 x29) (sel (ak (ai 0 x30) (aT x30 (av x28))) (sel E (sel (ak (ai 1 J) (ai L 3)) (sel (aG (D5 M J L)) (K (V.tup [G,H])) (sel (aT 0 x30) (sel (ai 60 D) (sel E (oN F [] n x0 x2 x3 x4 x5 x6 1 B x28 x29 O K) none) C) C)) none) none) none) (sel (aG (ieq x7 0)) N (sel (ai 604800 x8) N (sel x5 (K (V.tup [V.int .i64 (iX .i64 0 x8),G])) (K (V.tup [V.int .i64 x8,G]))))):=by kernel_rfl
theorem yD:sO aE:=⟨by kernel_rfl,by kernel_rfl⟩
theorem toA {f:Nat} {args:List V} {r:V} (h:af nE f args r):af aE f args r:=af.env (E:=nE) rfl (fun n v h=>by cases h) h
theorem U5 {m:Int} (h:Rz m=true):Fits m:=by
 unfold Rz at h;rw[aH,aA,aA] at h;exact h
theorem Zm (m:Int) (hc:Rz m=true):af aE 63 [.int .i64 m] (.str (text m)):=toA (y9 m (U5 hc))
theorem U6 (s sep:List UInt8) (hc:ak (seq sep [58]) (ai (aj s) 1000)=true):af aE 170 [.str s,.str sep] (.sl 9 [.str] none (lD s)):=by
 rw[aH,aA,dI,aB] at hc;obtain⟨rfl,hc⟩:=hc;have e:=aO.zN s;have c:=FW (E:=aE) (f:=170) (T:=9) (mx:=3) (mv:=mJ.val) rfl s [58] (by decide) (by omega) (fun s sep m w h1 h2 h3=>Go.Proofs.Tryz.strings_Split s sep m w h1 h2 h3);rw[e] at c;exact c
theorem RA:bq aE aS:=by
 unfold aS;refine bq.cons (fun args r h=>?_) (bq.cons (fun args r h=>?_) bq.nil);all_goals (revert h;intro h;first|unfold textS at h|unfold X4 at h)
 all_goals (split at h;rotate_left; · cases h)
 all_goals (simp only[Option.some.injEq,Prod.mk.injEq] at h;obtain⟨hc,rfl⟩:=h)
 ·exact Zm _ hc
 ·exact U6 _ _ hc
theorem Dp (s:List UInt8) (l m:Int):pok s l m=true↔(l≤(s.length:Int)∧(s.length:Int)≤m∧s.all isDigit=true):=by
 unfold pok;rw[Bool.and_eq_true,Bool.and_eq_true,decide_eq_true_eq,decide_eq_true_eq,and_assoc]
noncomputable def LV (s:List UInt8) (l m:Int):V:=.tup [.int .i64 (BK s l m),.bool (D5 s l m)]
theorem partR_t {s:List UInt8} {l m:Int} (h:pok s l m=true):LV s l m=.tup [.int .i64 (val s:Int),.bool true]:=by
 unfold LV BK D5;rw[if_pos h,h]
theorem Kj {s:List UInt8} {l m:Int} (h: ¬pok s l m=true):LV s l m=.tup [.int .i64 0,.bool false]:=by
 unfold LV BK D5;rw[if_neg h,Bool.eq_false_iff.2 h]
theorem U7 (s:List UInt8) (k:Nat) (hk:k<s.length):asInt (ax (aP (aJ s) (k:Int)) 0)=((s.getD k 0).toNat:Int):=by
 unfold aJ;rw[ku,List.getD_eq_getElem?_getD,List.getElem?_map,List.getElem?_eq_getElem hk,List.getD_eq_getElem?_getD,List.getElem?_eq_getElem hk];rfl
theorem QF (F:Nat) (K:V→Option V) (s:List UInt8) (l m u x4:Int) (hl:s.length≤3): ∀(n k:Nat),k≤s.length→s.length-k<n→(s.take k).all isDigit=true→
  ze F [] n l m u s x4 false (val (s.take k):Int) (aJ s) (s.length:Int) (k:Int) l m u K=K (if s.all isDigit=true then .tup [.int .i64 (val s:Int),.bool true] else .tup [.int .i64 0,.bool false]):=by
 intro n;induction n with
 |zero=>intro k _ h;omega
 |succ n ih=>
  intro k hk hn hd
  (rw[Gx];(conv=>zeta))
  have hb:(aJ s).length=s.length:=by unfold aJ;simp
  simp only[bJ,bf,aA,aH,aB,aD,hb];by_cases he:k=s.length
  ·rw[if_neg (by omega)]
   rw[he,List.take_length] at hd⊢;rw[if_pos hd]
  ·have hlt:k<s.length:=by omega
   rw[if_pos (by omega),if_pos (by omega),U7 s k hlt];have hmem:s.getD k 0∈s:=by
    rw[List.getD_eq_getElem?_getD,List.getElem?_eq_getElem hlt];exact List.getElem_mem hlt
   by_cases h1:(s.getD k 0).toNat<48
   ·rw[if_pos (by omega),if_neg]
    intro ha;have:=(uN _).1 (List.all_eq_true.1 ha _ hmem);omega
   ·rw[if_neg (by omega)]
    by_cases h2:57<(s.getD k 0).toNat
    ·rw[if_pos (by omega),if_neg]
     intro ha;have:=(uN _).1 (List.all_eq_true.1 ha _ hmem);omega
    ·rw[if_neg (by omega)]
     have hd1:(s.take (k+1)).all isDigit=true:=by
      rw[List.take_add_one,List.getElem?_eq_getElem hlt,List.all_append,hd];rw[List.getD_eq_getElem?_getD,List.getElem?_eq_getElem hlt] at h1 h2;simp only[Option.getD_some] at h1 h2;have:isDigit s[k]=true:=(uN _).2 ⟨by omega,by omega⟩;simp[this]
     have hv:=y8 s k hlt;have hv3:=XK (s.take (k+1)) hd1 (k+1);rw[List.take_take,Nat.min_self] at hv3;have h4:10 ^ (k+1)≤10 ^ 3:=Nat.pow_le_pow_right (by decide) (by omega);have e1:fB .i64 (k:Int) 1=((k+1:Nat):Int):=by rw[iO (by omega)];rfl
     have e2:fB .i64 (DK .i64 (val (s.take k):Int) 10) (pq .i64 (iX .u8 ((s.getD k 0).toNat:Int) 48))=(val (s.take (k+1)):Int):=by
      rw[isubu8 (by omega),icnv64 (by omega),Pw (by omega),iO (by omega)];omega
     rw[e1,e2];exact ih (k+1) (by omega) (by omega) hd1
theorem Zn (s:List UInt8) (l m u:Int) (hl:1≤l) (hm:m≤3):af aE 171 [.agg [.int .i64 l,.int .i64 m,.int .i64 u],.str s] (LV s l m):=by
 refine ah yD RA 5 1 ?_
 (rw[U3];(conv=>zeta))
 simp only[bJ,bf,aA,Ba,aB];by_cases h1:(s.length:Int)<l
 ·rw[if_pos h1,Kj (by rw[Dp];omega)]
 ·rw[if_neg h1]
  by_cases h2:m<(s.length:Int)
  ·rw[if_pos h2,Kj (by rw[Dp];omega)]
  ·rw[if_neg h2,if_pos (by omega)]
   have hb:av (aJ s)=(s.length:Int):=by unfold av aJ;simp
   rw[hb];have:=QF 5 some s l m u 0 (by omega) 5 0 (by omega) (by omega) rfl;by_cases h3:s.all isDigit=true
   ·rw[partR_t (by rw[Dp];exact⟨by omega,by omega,h3⟩)]
    rw[if_pos h3] at this;exact this
   ·rw[Kj (by rw[Dp];exact fun h=>h3 h.2.2)]
    rw[if_neg h3] at this;exact this
theorem FJ (k:Nat) (h:k<10):text (k:Int)=[digit k]:=by
 unfold text;rw[if_neg (by omega),Int.natAbs_natCast,xV k h];rfl
theorem atwo_ev (k:Nat) (h:k≤59):af aE 80 [.int .i64 (k:Int)] (.str (jX [58] (TM (k:Int)))):=by
 refine ah yD RA 5 2 ?_
 (rw[Zl];(conv=>zeta))
 simp only[bJ,aA,aH,iG];have e1:qQ .i64 (k:Int) 10=((k/10:Nat):Int):=by rw[JB (by omega) (by omega) (by omega)];rfl
 have e2:wP (k:Int) 10=((k%10:Nat):Int):=by rw[um (by omega)];rfl
 rw[e1,e2,FJ _ (by omega),FJ _ (by omega),if_pos (by omega),if_pos (by simp),if_pos (by omega),if_pos (by simp[jX])];rfl
def D6 (k:Nat):List UInt8:=text ((k/3600:Nat):Int)
theorem hour_eq (k:Nat):text ((k/3600:Nat):Int)=D6 k:=rfl
def Lu (k:Nat):List UInt8:=D6 k++([58]++aO.two (k/60%60))++(if 0<k%60 then[58]++aO.two (k%60) else[])
theorem Sr (k:Nat) (h1:1≤k) (h2:k≤604799):aO.text (k:Int)=(Lu k,0):=by
 have e:D6 k=wR (k/3600):=by
  unfold D6 text;rw[if_neg (by omega),Int.natAbs_natCast];rfl
 unfold aO.text Lu;rw[if_neg (by omega),if_neg (by omega),if_neg (by omega),Int.natAbs_natCast,e];split<;>simp
theorem amt_neg (k:Nat) (h1:1≤k) (h2:k≤604799):aO.text (-(k:Int))=([45]++Lu k,0):=by
 have e:D6 k=wR (k/3600):=by
  unfold D6 text;rw[if_neg (by omega),Int.natAbs_natCast];rfl
 unfold aO.text Lu;rw[if_neg (by omega),if_neg (by omega),if_pos (by omega),Int.natAbs_neg,Int.natAbs_natCast,e];split<;>simp
theorem Ss (n:Int) (h:n≤ -604800∨604800≤n):aO.text n=([],1):=by unfold aO.text;rw[if_pos h]
theorem amt_nil:aO.text 0=([48],0):=by unfold aO.text;rw[if_neg (by omega),if_pos rfl]
theorem MR (k:Nat) (h2:k≤604799):(D6 k).length≤21:=(Mt _ (by unfold Fits;omega)).1
theorem Kk (k:Nat):(aO.two k).length=2:=rfl
theorem Zo (k:Nat) (h2:k≤604799):(Lu k).length≤27:=by
 unfold Lu;have:=MR k h2;split<;>simp[Kk]<;>omega
theorem ER (k:Nat) (h1:1≤k) (h2:k≤604799):TN (k:Int)=Lu k:=by unfold TN;rw[Sr k h1 h2]
theorem Zp (k:Nat):TM (k:Int)=aO.two k:=rfl
def amtV (n:Int):V:=.tup [.str (aO.text n).1,.int .i64 (aO.text n).2]
theorem twoA_ok (n:Int) (hc:ak (ai 0 n) (ai n 59)=true):af aE 80 [.int .i64 n] (.str (jX [58] (TM n))):=by
 rw[aH,aA,aA] at hc;obtain⟨k,rfl⟩: ∃k:Nat,n=k:=⟨n.toNat,by omega⟩
 exact atwo_ev k (by omega)
theorem tS_ok:bq aE tS:=by
 unfold tS;refine bq.cons (fun args r h=>?_) RA;all_goals (revert h;intro h;first|unfold twoA at h)
 all_goals (split at h;rotate_left; · cases h)
 all_goals (simp only[Option.some.injEq,Prod.mk.injEq] at h;obtain⟨hc,rfl⟩:=h)
 ·exact twoA_ok _ hc
theorem uF_ok:bq aE (uS false):=by -- of 60
 unfold uS;refine bq.cons (fun args r h=>?_) tS_ok;unfold posS at h;split at h
 ·simp only[Option.some.injEq,Prod.mk.injEq] at h
  obtain⟨hc,rfl⟩:=h
  cases hc
 ·cases h
theorem U8 (k:Nat) (h:k≤604799):qQ .i64 (k:Int) 3600=((k/3600:Nat):Int)∧qQ .i64 (wP (k:Int) 3600) 60=((k/60%60:Nat):Int)∧wP (k:Int) 60=((k%60:Nat):Int)∧wP (qQ .i64 (k:Int) 60) 60=((k/60%60:Nat):Int):=by
 have e1:wP (k:Int) 3600=((k%3600:Nat):Int):=by rw[um (by omega)];rfl
 have e2:qQ .i64 (k:Int) 60=((k/60:Nat):Int):=by rw[JB (by omega) (by omega) (by omega)];rfl
 refine⟨by rw[JB (by omega) (by omega) (by omega)];rfl,?_,by rw[um (by omega)];rfl,?_⟩
 ·rw[e1,JB (by omega) (by omega) (by omega)];omega
 ·rw[e2,um (by omega)];rfl
theorem IP (k:Nat) (h1:1≤k) (h2:k≤604799):af aE 60 [.int .i64 (k:Int)] (.tup [.str (TN (k:Int)),.int .i64 0]):=by
 refine ah yD uF_ok 5 2 ?_
 (rw[IL];(conv=>zeta);rw[ER k h1 h2])
 obtain⟨e1,e2,e3,e4⟩:=U8 k h2;have hh:=MR k h2;simp only[bJ,aA,bf,aK,aH,iG,e1,e2,e3,Zp,hour_eq];rw[if_neg (by omega),if_neg (by omega),if_neg (by omega),if_neg (by omega),if_pos (by omega),if_pos (by omega),if_pos (by simp[jX,Kk];omega)];unfold Lu;by_cases h:0<k%60
 ·rw[if_pos (by omega),if_pos (by omega),if_pos (by simp[jX,Kk];omega),if_pos h]
  rfl
 ·rw[if_neg (by omega),if_neg h,List.append_nil]
  rfl
theorem uT_ok:bq aE (uS true):=by -- of 60
 unfold uS;refine bq.cons (fun args r h=>?_) tS_ok;unfold posS at h;split at h
 ·simp only[Option.some.injEq,Prod.mk.injEq] at h
  obtain⟨hc,rfl⟩:=h;rw[aH,aH,aA,aA] at hc;rename_i n;obtain⟨k,rfl⟩: ∃k:Nat,n=k:=⟨n.toNat,by omega⟩
  exact IP k (by omega) (by omega)
 ·cases h
theorem MN (n:Int) (h1: -9223372036854775808≤n) (h2:n≤9223372036854775807):af aE 60 [.int .i64 n] (amtV n):=by
 by_cases hp:1≤n∧n≤604799
 ·obtain⟨k,rfl⟩: ∃k:Nat,n=k:=⟨n.toNat,by omega⟩
  have:=IP k (by omega) (by omega);unfold amtV;rw[Sr k (by omega) (by omega)];rw[ER k (by omega) (by omega)] at this;exact this
 refine ah yD uT_ok 5 2 ?_
 (rw[IL];(conv=>zeta))
 simp only[bJ,aA,bf,aK,aH,iG];unfold amtV;by_cases ha:n≤ -604800
 ·rw[if_pos ha,Ss n (.inl ha)]
 ·rw[if_neg ha]
  by_cases hb:604800≤n
  ·rw[if_pos hb,Ss n (.inr hb)]
  ·rw[if_neg hb]
   by_cases hc:n=0
   ·subst hc
    rw[if_pos rfl,if_pos (by omega),amt_nil];rfl
   ·rw[if_neg hc,if_pos (by omega)]
    obtain⟨k,rfl⟩: ∃k:Nat,n= -(k:Int):=⟨(-n).toNat,by omega⟩
    have e:iX .i64 0 (-(k:Int))=(k:Int):=by rw[qY (by omega)];omega
    rw[e,if_pos ⟨trivial,by omega,by omega⟩,ER k (by omega) (by omega),if_pos (by have:=Zo k (by omega);simp;omega),amt_neg k (by omega) (by omega)];rfl
noncomputable def tblV:List V:=[V.agg [V.int .i64 1,V.int .i64 3,V.int .i64 3600],V.agg [V.int .i64 2,V.int .i64 2,V.int .i64 60],V.agg [V.int .i64 2,V.int .i64 2,V.int .i64 1]]
theorem Zq:[V.agg [V.int .i64 1,V.int .i64 3,V.int .i64 3600],V.agg [V.int .i64 2,V.int .i64 2,V.int .i64 60],V.agg [V.int .i64 2,V.int .i64 2,V.int .i64 1]]=tblV:=rfl
theorem tbl_at: ∀k:Nat,k<3→asInt (ax (aP tblV (k:Int)) 0)=(aO.least k:Int)∧asInt (ax (aP tblV (k:Int)) 1)=(aO.most k:Int)∧asInt (ax (aP tblV (k:Int)) 2)=(aO.unit k:Int)
 |0,_=>⟨rfl,rfl,rfl⟩
 |1,_=>⟨rfl,rfl,rfl⟩
 |2,_=>⟨rfl,rfl,rfl⟩
 |n+3,h=>by omega
theorem str_at (P:List (List UInt8)) (k:Nat) (hk:k<P.length):aR (ax (aP (bL P) (k:Int)) 0)=P.getD k []:=by
 unfold bL;rw[ku,List.getD_eq_getElem?_getD,List.getElem?_map,List.getElem?_eq_getElem hk,List.getD_eq_getElem?_getD,List.getElem?_eq_getElem hk];rfl
theorem Sv (s:List UInt8) (l m:Nat):pok s (l:Int) (m:Int)=aO.ok s l m:=by
 unfold pok aO.ok;congr 2
 ·apply decide_eq_decide.2;omega
 ·apply decide_eq_decide.2;omega
theorem U9 (s:List UInt8) (l m:Nat):D5 s (l:Int) (m:Int)=aO.ok s l m:=Sv s l m
theorem Va {s:List UInt8} {l m:Nat} (h:aO.ok s l m=true):BK s (l:Int) (m:Int)=(val s:Int):=by unfold BK;rw[Sv,if_pos h]
theorem ok_val {s:List UInt8} {l m:Nat} (hm:m≤3) (h:aO.ok s l m=true):val s≤999:=by
 unfold aO.ok at h;rw[Bool.and_eq_true,Bool.and_eq_true,decide_eq_true_eq,decide_eq_true_eq] at h;have h3:=XK s h.2 s.length;rw[List.take_length] at h3;have h4:10 ^ s.length≤10 ^ 3:=Nat.pow_le_pow_right (by decide) (by omega);omega
theorem most_le (k:Nat):aO.most k≤3∧1≤aO.least k∧aO.unit k≤3600:=by
 unfold aO.most aO.least aO.unit;split<;>(try split)<;>omega
def LW (P:List (List UInt8)) (below:Bool):V:=.tup [.int .i64 (aO.told P below).1,.int .i64 (aO.told P below).2]
theorem Zr {P:List (List UInt8)} {b:Bool} {k:Nat} (hk:k<P.length) (h: ¬aO.ok (P.getD k []) (aO.least k) (aO.most k)=true):aO.told P b=(0,2):=by
 have:aO.vZ P P.length=false:=by
  rw[Bool.eq_false_iff];intro hg;have:=aO.Zk P (k+1) P.length hk hg;unfold aO.vZ at this;rw[Bool.and_eq_true] at this;exact h this.2
 unfold aO.told;rw[this];simp
theorem QG (F:Nat) (K:V→Option V) (s rest:List UInt8) (x2 x3:Int) (x6:List V) (below:Bool) (P:List (List UInt8)) (hP:P.length≤3): ∀(n k:Nat),k≤P.length→P.length-k<n→
  aO.vZ P k=true→aO.CX P k≤k*3596400→
  oN F [] n s x2 x3 rest below x6 (if aO.rR P k then 0 else 1) (aO.CX P k:Int) (bL P) (P.length:Int) (k:Int) K=K (LW P below):=by
 intro n;induction n with
 |zero=>intro k _ h;omega
 |succ n ih=>
  intro k hk hn hg hs
  (rw[Gy];(conv=>zeta))
  by_cases he:k=P.length
  ·subst he
   simp only[bJ,bf,aA,aK,bP];rw[if_neg (by omega)];unfold LW aO.told;rw[decide_eq_false (by omega: ¬3<P.length),hg];by_cases hf:aO.rR P P.length=true
   ·rw[if_pos hf,if_neg (by omega),hf]
    by_cases h6:604800≤aO.CX P P.length
    ·rw[if_pos (by omega),decide_eq_true h6];rfl
    ·rw[if_neg (by omega),decide_eq_false h6]
     cases below with
     |true=>
      rw[if_pos rfl,qY (by omega)];simp
     |false=>rw[if_neg (by simp)];rfl
   ·rw[if_neg hf,if_pos (by omega),Bool.eq_false_iff.2 hf];rfl
  ·have hlt:k<P.length:=by omega
   have hl:(bL P).length=P.length:=je P;obtain⟨t0,t1,t2⟩:=tbl_at k (by omega);obtain⟨m1,m2,m3⟩:=most_le k;simp only[Zq,t0,t1,t2,str_at P k hlt,U9];rw[ay (bD (by omega)),ay (by rw[aH];exact⟨bF (by omega),bD (by rw[aD,hl];omega)⟩),ay (by rw[aH];exact⟨bF (by omega),bD (by omega)⟩),ay (by rw[aH];exact⟨bF (by omega),bF (by omega)⟩)];by_cases hok:aO.ok (P.getD k []) (aO.least k) (aO.most k)=true
   ·have hv:=ok_val m1 hok
    simp only[Va hok];rw[aU (by rw[hok];rfl)];have hmul:val (P.getD k [])*aO.unit k≤999*3600:=Nat.mul_le_mul hv m3;have e1:fB .i64 (k:Int) 1=((k+1:Nat):Int):=by rw[iO (by omega)];rfl
    have e2:fB .i64 (aO.CX P k:Int) (DK .i64 (val (P.getD k []):Int) (aO.unit k:Int))=((aO.CX P (k+1):Nat):Int):=by
     have e3:(val (P.getD k []):Int)*(aO.unit k:Int)=((val (P.getD k [])*aO.unit k:Nat):Int):=by rw[Int.natCast_mul]
     rw[Pw (by rw[e3];omega),e3,iO (by omega)];show _=((aO.CX P k+val (P.getD k [])*aO.unit k:Nat):Int)
     omega
    have hg1:aO.vZ P (k+1)=true:=by unfold aO.vZ;rw[hg,hok];rfl
    have hs1:aO.CX P (k+1)≤(k+1)*3596400:=by
     show aO.CX P k+val (P.getD k [])*aO.unit k≤_;omega
    have hnext:=ih (k+1) (by omega) (by omega) hg1 hs1;have hb3:ak (ai 0 (k:Int)) (aT (k:Int) 3)=true:=by rw[aH];exact⟨bF (by omega),bD (by omega)⟩
    rw[e1,e2];by_cases hk0:k=0
    ·rw[aU (bB (by omega)),ay hb3]
     have:aO.rR P (k+1)=aO.rR P k:=by
      show(aO.rR P k&&(decide (k=0)||_))=_;rw[decide_eq_true hk0];simp
     rw[←this];exact hnext
    ·rw[ay (bD (by omega))]
     by_cases h60:60≤val (P.getD k [])
     ·rw[ay (bF (by omega)),ay hb3]
      have:aO.rR P (k+1)=false:=by
       show(aO.rR P k&&(decide (k=0)||decide (val (P.getD k [])≤59)))=_;rw[decide_eq_false hk0,decide_eq_false (by omega)];simp
      rw[this] at hnext;exact hnext
     ·rw[aU (vY (by omega)),ay hb3]
      have:aO.rR P (k+1)=aO.rR P k:=by
       show(aO.rR P k&&(decide (k=0)||decide (val (P.getD k [])≤59)))=_;rw[decide_eq_false hk0,decide_eq_true (by omega)];simp
      rw[←this];exact hnext
   ·rw[ay (by rw[bP];exact hok)]
    unfold LW;rw[Zr hlt hok]
def Xf (s:List UInt8):V:=.tup [.int .i64 (aO.read s).1,.int .i64 (aO.read s).2]
theorem Zs (l m u:Int) (s:List UInt8) (hc:ak (ai 1 l) (ai m 3)=true):af aE 171 [.agg [.int .i64 l,.int .i64 m,.int .i64 u],.str s] (.tup [.int .i64 (BK s l m),.bool (D5 s l m)]):=by
 rw[aH,aA,aA] at hc;exact Zn _ _ _ _ hc.1 hc.2
theorem bS_ok:bq aE bS:=by
 unfold bS;refine bq.cons (fun args r h=>?_) RA;all_goals (revert h;intro h;first|unfold readS at h)
 all_goals (split at h;rotate_left; · cases h)
 all_goals (simp only[Option.some.injEq,Prod.mk.injEq] at h;obtain⟨hc,rfl⟩:=h)
 ·exact Zs _ _ _ _ hc
theorem Vb {P:List (List UInt8)} {b:Bool} (h:3<P.length):aO.told P b=(0,2):=by
 unfold aO.told;rw[decide_eq_true h];rfl
theorem Od (s:List UInt8):av (lD s)=((aO.pieces s).length:Int):=by unfold av lD;rw[je]
theorem MJ (s:List UInt8) (hs:s.length≤1000):af aE 148 [.str s] (Xf s):=by
 refine ah yD bS_ok 5 3 ?_
 (rw[U4];(conv=>zeta))
 have rest: ∀(d:List UInt8) (below:Bool),d.length≤1000→sel (ak (seq [58] [58]) (ai (aj d) 1000))
    (sel (aT 3 (av (lD d)))
     (some (V.tup [V.int .i64 0,V.int .i64 2]))
     (oN 5 [] 5 s 0 0 d below (lD d) 0 0 (lD d) (av (lD d)) 0 some))
    none=some (LW (aO.pieces d) below):=by
  intro d below hd;rw[ay (by rw[aH];exact⟨rfl,bF (by rw[aB];omega)⟩),Od];by_cases h3:3<(aO.pieces d).length
  ·rw[ay (bD (by omega))]
   unfold LW;rw[Vb h3]
  ·rw[aU (bB (by omega))]
   exact QG 5 some s d 0 0 (lD d) below (aO.pieces d) (by omega) 5 0 (by omega) (by omega) rfl (by show 0≤_;omega)
 cases s with
 |nil=>
  rw[aU (vY (by decide))];exact rest [] false (by simp)
 |cons c t=>
  have hlen:aj (c::t)=(t.length:Int)+1:=by rw[aB,List.length_cons];omega
  have e1:dF (c::t) 0 (aj [45])=[c]:=rfl;have e2:dF (c::t) (aj [45]) (aj (c::t))=t:=by
   rw[show aj [45]=((1:Nat):Int) from rfl,aB,EL];simp
  have h45:aj [45]=1:=rfl;rw[e1,e2,ay (bF (by rw[h45,hlen];omega)),ay (by rw[aH];exact⟨by decide,bF (by rw[h45,hlen];omega)⟩)];by_cases hc:c=45
  ·subst hc
   rw[aU (by decide),ay (by rw[aH];exact⟨by decide,bF (by rw[h45,hlen];omega)⟩)];by_cases ht:t=[]
   ·subst ht
    rw[ay (by decide)];rfl
   ·rw[aU (by rw[Bool.eq_false_iff,ne_eq,dI];exact ht),rest t true (by simp at hs;omega)]
    unfold Xf aO.read;rw[if_neg (by simpa using ht)];rfl
  ·rw[ay (by rw[bP,dI];simpa using hc),rest (c::t) false hs]
   have hm:minus (c::t)=false:=by unfold minus;simpa using hc
   unfold Xf aO.read bare;rw[if_neg (by simp[hc]),hm];rfl
end Nt.Ev.YtplklcejbmfgdaaGreatDoor
