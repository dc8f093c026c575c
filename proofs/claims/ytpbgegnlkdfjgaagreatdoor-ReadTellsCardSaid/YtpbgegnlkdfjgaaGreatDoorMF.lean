/-
  The plain law of amounts: pieces between colons, parts, sums. The plain law of amounts, there and back. Amounts: the equations of the program's functions and of the document's, as the evaluator prints them. Amounts: what the program's functions and the document's answer. Amounts: how they are written, by the program and by the document. Amounts: how they are read, by the program and by the document. Amounts that are written, read again: those above nought.
-/
import Derived.Test.YtpbgegnlkdfjgaaGreatDoorMC
import Derived.Lib.Split
import Derived.Test.YtpbgegnlkdfjgaaGreatDoorMS
set_option linter.unusedVariables false
set_option linter.unusedSimpArgs false
set_option linter.unusedSectionVars false
namespace Nt.aJ
open Go Go.RowKit Nt Nt.Num
def pieces:List UInt8→List (List UInt8)
 |[]=>[[]]
 |c::l=>if c==58 then[]::pieces l else(c::(pieces l).headD [])::(pieces l).tail
def least (i:Nat):Nat:=if i=0 then 1 else 2
def most (i:Nat):Nat:=if i=0 then 3 else 2
def unit (i:Nat):Nat:=if i=0 then 3600 else if i=1 then 60 else 1
def ok (l:List UInt8) (least most:Nat):Bool:=decide (least≤l.length)&&decide (l.length≤most)&&l.all isDigit
def part (l:List UInt8) (least most:Nat):Int×Bool:=if ok l least most then((val l:Nat),true) else(0,false)
def uo (P:List (List UInt8)):Nat→Bool
 |0=>true
 |k+1=>uo P k&&ok (P.getD k []) (least k) (most k)
def mQ (P:List (List UInt8)):Nat→Bool
 |0=>true
 |k+1=>mQ P k&&(decide (k=0)||decide (val (P.getD k [])≤59))
def qy (P:List (List UInt8)):Nat→Nat
 |0=>0
 |k+1=>qy P k+val (P.getD k [])*unit k
def told (P:List (List UInt8)) (below:Bool):Int×Int:=
 if decide (3<P.length)|| !uo P P.length then(0,2)
 else if !mQ P P.length||decide (604800≤qy P P.length) then(0,1)
 else(if below then -(qy P P.length:Int) else(qy P P.length:Int),0)
def read (l:List UInt8):Int×Int:=if l=[45] then(0,0) else told (pieces (bare l)) (minus l)
def two (n:Nat):List UInt8:=[digit (n/10),digit (n%10)]
theorem abm (P:List (List UInt8)) (k:Nat): ∀m,k≤m→uo P m=true→uo P k=true:=by
 intro m;induction m with
 |zero=>
    intro h hg;have e:k=0:=by omega
    rw[e];exact hg
 |succ m ih=>
  intro h hg;by_cases e:k=m+1
  ·rw[e];exact hg
  ·unfold uo at hg
   rw[Bool.and_eq_true] at hg;exact ih (by omega) hg.1
theorem WY (l:List UInt8):pieces l≠[]:=by
 cases l with
 |nil=>simp[pieces]
 |cons c l=>unfold pieces;split<;>simp
theorem Cs: ∀(s:List UInt8),Lib.splitK [58] 0 (Lib.count s [58]) s=pieces s
 |[]=>by
  have h:Lib.index [] [58]= -1:=by decide
  rw[Lib.count_miss h];rfl
 |c::l=>by
  have ih:=Cs l;by_cases hc:c=58
  ·subst hc
   have h:Lib.index (58::l) [58]=(0:Nat):=by unfold Lib.index;simp
   rw[Lib.count_hit (by simp) h,Nat.add_comm 1];unfold Lib.splitK;rw[if_neg (by rw[h];decide),h];have e1:List.take (Int.toNat (((0:Nat):Int))+0) (58::l)=([]:List UInt8):=rfl;have e2:List.drop (Int.toNat (((0:Nat):Int))+[(58:UInt8)].length) (58::l)=l:=rfl;have e3:List.drop (0+[(58:UInt8)].length) (58::l)=l:=rfl;rw[e1,e2,e3,ih];conv=>rhs;unfold pieces
   rw[if_pos (by rfl)]
  ·have hp:([58]:List UInt8).isPrefixOf (c::l)=false:=by
    simp only[List.isPrefixOf,Bool.and_true,beq_eq_false_iff_ne];exact fun e=>hc e.symm
   have hpc:pieces (c::l)=(c::(pieces l).headD [])::(pieces l).tail:=by
    conv=>lhs;unfold pieces
    rw[if_neg (by simpa using hc)]
   by_cases hi:Lib.index l [58]= -1
   ·have h:Lib.index (c::l) [58]= -1:=by
     unfold Lib.index;rw[hp,hi];rfl
    rw[Lib.count_miss h,hpc,←ih,Lib.count_miss hi];rfl
   ·have hge:=Lib.index_ge l [58]
    obtain⟨i,hi'⟩: ∃i:Nat,Lib.index l [58]=i:=⟨(Lib.index l [58]).toNat,by omega⟩
    have h:Lib.index (c::l) [58]=((i+1:Nat):Int):=by
     unfold Lib.index;rw[hp,hi'];simp only[Bool.false_eq_true,if_false];rw[if_neg (by rw[beq_iff_eq];omega)];rfl
    rw[Lib.count_hit (by simp) hi',Nat.add_comm 1] at ih;rw[Lib.count_hit (by simp) h,Nat.add_comm 1,hpc,←ih];unfold Lib.splitK;rw[if_neg (by rw[h,beq_iff_eq];omega),h,if_neg (by rw[hi',beq_iff_eq];omega),hi'];simp only[Int.toNat_natCast,Nat.add_zero,List.take_succ_cons,List.headD_cons,List.tail_cons,List.length_singleton,List.drop_succ_cons]
def glue (p:List UInt8) (P:List (List UInt8)):List (List UInt8):=(p++P.headD [])::P.tail
theorem Pm (l:List UInt8):glue [] (pieces l)=pieces l:=by
 unfold glue
 cases e:pieces l with
 |nil=>exact absurd e (WY l)
 |cons a t=>rfl
theorem abn (p:List UInt8):glue p (pieces [])=[p]:=by simp[glue,pieces]
theorem Ty (p l:List UInt8):glue p (pieces (58::l))=p::pieces l:=by simp[glue,pieces]
theorem Tz (p l:List UInt8) (c:UInt8) (h:c≠58):glue p (pieces (c::l))=glue (p++[c]) (pieces l):=by simp[glue,pieces,h]
end Nt.aJ
namespace Nt.Ev.YtpbgegnlkdfjgaaGreatDoor
set_option maxRecDepth 100000
open Go Nt.Num Go.Proofs.YtpbgegnlkdfjgaaGreatDoor
noncomputable def eT (s:List UInt8):List V:=bQ (aJ.pieces s)
noncomputable def pok (s:List UInt8) (l m:Int):Bool:=decide (l≤(s.length:Int))&&decide ((s.length:Int)≤m)&&s.all isDigit
noncomputable def mR (s:List UInt8) (l m:Int):Int:=if pok s l m then(val s:Int) else 0
noncomputable def vH (s:List UInt8) (l m:Int):Bool:=pok s l m
variable [uT]
noncomputable def RY:V:=.rptr [.int .i64,.int .i64,.int .i64,.int .i64,.int .i64,.int .i64,.int .i64,.int .i64,.int .i64] (.agg [.int .i64 1,.int .i64 3,.int .i64 3600,.int .i64 2,.int .i64 2,.int .i64 60,.int .i64 2,.int .i64 2,.int .i64 1]) 0
noncomputable def aE:Env:=⟨Go.Proofs.Tryz.prog,fun g=>bif g==1 then some RY else bif g==0 then some (.rptr [.int .i64] (.int .i64 uT.val) 0) else none⟩
noncomputable def U4:aL:=fun a=>match a with|[.str s]=>some (ak (ah s) 9223372036854775806,.bool (yD s))|_=>none
noncomputable def ZX:aL:=fun a=>match a with|[.str s,.str sep]=>some (av (seq sep [58]) (ak (ah s) 1000),.sl 9 [.str] none (eT s))|_=>none
noncomputable def cutS:aL:=fun a=>match a with|[.str s]=>some (ak (ah s) 1000,.sl 9 [.str] (some 0) (eT s))|_=>none
noncomputable def partS:aL:=fun a=>match a with|[.str s,.int .i64 l,.int .i64 m]=>some (av (ak 1 l) (ak m 3),.tup [.int .i64 (mR s l m),.bool (vH s l m)])|_=>none
noncomputable def readS:aL:=fun a=>match a with|[.agg [.int .i64 l,.int .i64 m,.int .i64 u],.str s]=>some (av (ak 1 l) (ak m 3),.tup [.int .i64 (mR s l m),.bool (vH s l m)])|_=>none
noncomputable def aS:List (Nat×aL):=(124,U4)::(138,ZX)::[]
noncomputable def bS:List (Nat×aL):=(82,cutS)::(83,partS)::(139,readS)::aS
noncomputable def Bw (F:Nat) (ns:List Nat) (n:Nat) (x0:List UInt8) (x3:List V) (x4 x5:Int) (K:V→Option V):Option V:=
 dN aE aS F 1 82 [1,1,1,0,1,0] ns K n (iY 32 [(0,V.str x0),(2,V.sl 9 [Kd.str] (some 2) []),(3,V.sl 9 [Kd.str] (some 3) x3),(4,V.int .i64 x4),(5,V.int .i64 x5)] [])
theorem abo (F:Nat) (s:List UInt8) (K:V→Option V):
 bD aE (bB aE aS F 1) F 82 [V.str s] K=
 Bw F [] F s [] 0 0 K:=by kernel_rfl
theorem Ct (F n:Nat) (x0:List UInt8) (x3:List V) (x4 x5:Int) (K:V→Option V):
 Bw F [] (n+1) x0 x3 x4 x5 K=
 let B:=bP .i64 x5 1;let C:=[V.str (bU x0 x4 x5)];let D:=ak x5 (ah x0);let A:=sel (av (av (ak 0 x5) D) (av (ak 0 x4) (ak x4 x5))) (sel (dR x3 C) (Bw F [] n x0 (aX x3 C) B B K) none) (none);sel D (sel (ieq x5 (ah x0)) A (sel (av (ak 0 x5) (aK x5 (ah x0))) (sel (ieq (sat x0 x5) 58) A (Bw F [] n x0 x3 x4 B K)) none)) (K (V.sl 9 [Kd.str] (some 3) x3)):=by kernel_rfl
noncomputable def BQ (F:Nat) (ns:List Nat) (n:Nat) (x0:List UInt8) (x1 x2:Int) (x7:Bool) (x8 x9:Int) (K:V→Option V):Option V:=
 dN aE aS F 1 83 [1,1,1,0,1,0] ns K n (iY 40 [(0,V.str x0),(1,V.int .i64 x1),(2,V.int .i64 x2),(6,V.int .i64 0),(7,V.bool x7),(8,V.int .i64 x8),(9,V.int .i64 x9)] [])
theorem WZ (F:Nat) (s:List UInt8) (l m:Int) (K:V→Option V):
 bD aE (bB aE aS F 1) F 83 [V.str s,V.int .i64 l,V.int .i64 m] K=
 let A:=K (V.tup [V.int .i64 0,V.bool false]);sel (aK (ah s) l) A (sel (aK m (ah s)) A (sel (ak (ah s) 9223372036854775806) (sel (aB (yD s)) A (BQ F [] F s l m false 0 0 K)) none)):=by kernel_rfl
theorem Jv (F n:Nat) (x0:List UInt8) (x1 x2:Int) (x7:Bool) (x8 x9:Int) (K:V→Option V):
 BQ F [] (n+1) x0 x1 x2 x7 x8 x9 K=
 let A:=aK x9 (ah x0);sel A (sel (av (ak 0 x9) A) (BQ F [] n x0 x1 x2 x7 (bP .i64 (AZ .i64 10 x8) (y8 .i64 (nP .u8 (sat x0 x9) 48))) (bP .i64 x9 1) K) none) (K (V.tup [V.int .i64 x8,V.bool true])):=by kernel_rfl
noncomputable def BR (F:Nat) (ns:List Nat) (n:Nat) (lD lF nR:Int) (x1:List UInt8) (x4:Int) (x5:Bool) (x6:Int) (Yu:List V) (NU x24 eX dV fU:Int) (K:V→Option V):Option V:=
 dN aE aS F 1 139 [1,1,1,0,1,0] ns K n (iY 42 [(0,V.agg [V.int .i64 lD,V.int .i64 lF,V.int .i64 nR]),(1,V.str x1),(2,V.box 2 0),(4,V.int .i64 x4),(5,V.bool x5),(6,V.int .i64 x6),(22,V.sl 5 [Kd.int .u8] none Yu),(23,V.int .i64 NU),(24,V.int .i64 x24)] [(2,[V.int .i64 eX,V.int .i64 dV,V.int .i64 fU])])
theorem W9 (F:Nat) (s:List UInt8) (l m u:Int) (K:V→Option V):
 bD aE (bB aE aS F 1) F 139 [V.agg [V.int .i64 l,V.int .i64 m,V.int .i64 u],V.str s] K=
 let A:=K (V.tup [V.int .i64 0,V.bool false]);sel (aK (ah s) l) A (sel (aK m (ah s)) A (sel (JQ s) (BR F [] F l m u s 0 false 0 (aZ s) (ax (aZ s)) 0 l m u K) none)):=by kernel_rfl
theorem Jw (F n:Nat) (lD lF nR:Int) (x1:List UInt8) (x4:Int) (x5:Bool) (x6:Int) (Yu:List V) (NU x24 eX dV fU:Int) (K:V→Option V):
 BR F [] (n+1) lD lF nR x1 x4 x5 x6 Yu NU x24 eX dV fU K=
 let A:=asInt (aD (aY Yu x24) 0);let B:=K (V.tup [V.int .i64 0,V.bool false]);sel (aK x24 NU) (sel (av (ak 0 x24) (aK x24 (ax Yu))) (sel (aK A 48) B (sel (aK 57 A) B (BR F [] n lD lF nR x1 x4 x5 (bP .i64 (AZ .i64 x6 10) (y8 .i64 (nP .u8 A 48))) Yu NU (bP .i64 x24 1) eX dV fU K))) none) (K (V.tup [V.int .i64 x6,V.bool true])):=by kernel_rfl
noncomputable def qO (F:Nat) (ns:List Nat) (n:Nat) (x0:List UInt8) (x2 x3:Int) (x4:List UInt8) (x5:Bool) (x6:List V) (x7 x8:Int) (x28:List V) (x29 x30:Int) (K:V→Option V):Option V:=
 dN aE bS F 3 104 [1,1,1,1,1,1,1,0,1,0] ns K n (iY 72 [(0,V.str x0),(2,V.int .i64 x2),(3,V.int .i64 x3),(4,V.str x4),(5,V.bool x5),(6,V.sl 9 [Kd.str] none x6),(7,V.int .i64 x7),(8,V.int .i64 x8),(28,V.sl 9 [Kd.str] none x28),(29,V.int .i64 x29),(30,V.int .i64 x30)] [])
theorem Xa (F:Nat) (s:List UInt8) (K:V→Option V):
 bD aE (bB aE bS F 3) F 104 [V.str s] K=
 let C:=ah [45];let H:=eT s;let I:=V.int .i64 0;let B:=bU s C (ah s);let D:=K (V.tup [I,V.int .i64 2]);let E:=av (ak 0 C) (ak C (ah s));let A:=sel (av (seq [58] [58]) (ak (ah s) 1000)) (sel (aK 3 (ax H)) D (qO F [] F s 0 0 s false H 0 0 H (ax H) 0 K)) (none);let G:=eT B;sel (ak C (ah s)) (sel E (sel (aB (seq (bU s 0 C) [45])) A (sel E (sel (seq B []) (K (V.tup [I,I])) (sel (av (seq [58] [58]) (ak (ah B) 1000)) (sel (aK 3 (ax G)) D (qO F [] F s 0 0 B true G 0 0 G (ax G) 0 K)) none)) none)) none) A:=by kernel_rfl
theorem Jy (F n:Nat) (x0:List UInt8) (x2 x3:Int) (x4:List UInt8) (x5:Bool) (x6:List V) (x7 x8:Int) (x28:List V) (x29 x30:Int) (K:V→Option V):
 qO F [] (n+1) x0 x2 x3 x4 x5 x6 x7 x8 x28 x29 x30 K=
 let E:=av (ak 0 x30) (aK x30 3);let G:=V.int .i64 0;let H:=V.int .i64 2;let I:=V.int .i64 1;let M:=aT (aD (aY x28 x30) 0);let O:=bP .i64 x30 1;let A:=aY [V.agg [I,V.int .i64 3,V.int .i64 3600],V.agg [H,H,V.int .i64 60],V.agg [H,H,I]] x30;let N:=K (V.tup [G,I]);let J:=asInt (aD A 0);let L:=asInt (aD A 1);let D:=mR M J L;let B:=bP .i64 x8 (AZ .i64 D (asInt (aD A 2)));let C:=sel E (qO F [] n x0 x2 x3 x4 x5 x6 x7 B x28 x29 O K) (none);sel (aK x30 x29) (sel (av (ak 0 x30) (aK x30 (ax x28))) (sel E (sel (av (ak 1 J) (ak L 3)) (sel (aB (vH M J L)) (K (V.tup [G,H])) (sel (aK 0 x30) (sel (ak 60 D) (sel E (qO F [] n x0 x2 x3 x4 x5 x6 1 B x28 x29 O K) none) C) C)) none) none) none) (sel (aB (ieq x7 0)) N (sel (ak 604800 x8) N (sel x5 (K (V.tup [V.int .i64 (nP .i64 0 x8),G])) (K (V.tup [V.int .i64 x8,G]))))):=by kernel_rfl
noncomputable def gV (F:Nat) (ns:List Nat) (n:Nat) (x0:List UInt8) (x2 x3:Int) (x4:List UInt8) (x5:List V) (x6:Int) (x7:Bool) (Yz:List V) (x34 AX:Int) (K:V→Option V):Option V:=
 dN aE bS F 2 56 [1,1,1,1,1,1,1,0,1,0] ns K n (iY 84 [(0,V.str x0),(2,V.int .i64 x2),(3,V.int .i64 x3),(4,V.str x4),(5,V.sl 9 [Kd.str] (some 5) x5),(6,V.int .i64 x6),(7,V.bool x7),(33,V.sl 9 [Kd.str] (some 5) Yz),(34,V.int .i64 x34),(35,V.int .i64 AX)] [])
theorem Xb (F:Nat) (s:List UInt8) (K:V→Option V):
 bD aE (bB aE bS F 2) F 56 [V.str s] K=
 let B:=bU s 1 (ah s);let E:=eT s;let G:=V.int .i64 0;let C:=K (V.tup [G,V.int .i64 2]);let D:=eT B;let A:=sel (ak (ah s) 1000) (sel (aK 3 (ax E)) C (gV F [] F s 0 0 s E 0 true E (ax E) 0 K)) (none);sel (seq s [45]) (K (V.tup [G,G])) (sel (aK 0 (ah s)) (sel (av (ak 0 0) (aK 0 (ah s))) (sel (ieq (sat s 0) 45) (sel (av (ak 0 1) (ak 1 (ah s))) (sel (ak (ah B) 1000) (sel (aK 3 (ax D)) C (gV F [] F s 0 0 B D 0 true D (ax D) 0 K)) none) none) A) none) A):=by kernel_rfl
theorem Jz (F n:Nat) (x0:List UInt8) (x2 x3:Int) (x4:List UInt8) (x5:List V) (x6:Int) (x7:Bool) (Yz:List V) (x34 AX:Int) (K:V→Option V):
 gV F [] (n+1) x0 x2 x3 x4 x5 x6 x7 Yz x34 AX K=
 let A:=[V.int .i64 3600,V.int .i64 60,V.int .i64 1];let B:=aT (aD (aY Yz AX) 0);let H:=bP .i64 AX 1;let I:=V.int .i64 0;let M:=ieq AX 0;let C:=av (ak 0 AX) (aK AX (ax A));let D:=asInt (aD (aY A AX) 0);let J:=K (V.tup [I,V.int .i64 2]);let L:=K (V.tup [I,V.int .i64 1]);let E:=bP .i64 x6 (AZ .i64 (mR B 1 3) D);let G:=bP .i64 x6 (AZ .i64 (mR B 2 2) D);sel (aK AX x34) (sel (av (ak 0 AX) (aK AX (ax Yz))) (sel M (sel (aB (vH B 1 3)) J (sel x7 (sel M (sel C (gV F [] n x0 x2 x3 x4 x5 E true Yz x34 H K) none) (sel C (gV F [] n x0 x2 x3 x4 x5 E (ak (mR B 1 3) 59) Yz x34 H K) none)) (sel C (gV F [] n x0 x2 x3 x4 x5 E false Yz x34 H K) none))) (sel (aB (vH B 2 2)) J (sel x7 (sel M (sel C (gV F [] n x0 x2 x3 x4 x5 G true Yz x34 H K) none) (sel C (gV F [] n x0 x2 x3 x4 x5 G (ak (mR B 2 2) 59) Yz x34 H K) none)) (sel C (gV F [] n x0 x2 x3 x4 x5 G false Yz x34 H K) none)))) none) (sel (aB x7) L (sel (ak 604800 x6) L (sel (aK (ah x4) (ah x0)) (K (V.tup [V.int .i64 (nP .i64 0 x6),I])) (K (V.tup [V.int .i64 x6,I]))))):=by kernel_rfl
theorem Bf:vT aE:=⟨by kernel_rfl,by kernel_rfl⟩
theorem Xc (F:Nat) (K:V→Option V) (s:List UInt8) (hs:s.length≤1000): ∀(n k a:Nat) (L:List (List UInt8)),a≤k→k≤s.length→L.length≤k→s.length+1-k<n→
  L++aJ.glue ((s.drop a).take (k-a)) (aJ.pieces (s.drop k))=aJ.pieces s→
  Bw F [] n s (bQ L) (a:Int) (k:Int) K=K (V.sl 9 [.str] (some 3) (eT s)):=by
 intro n;induction n with
 |zero=>intro k a L _ _ _ h;omega
 |succ n ih=>
  intro k a L ha hk hL hn hr
  (rw[Ct];(conv=>zeta))
  have hl:(bQ L).length=L.length:=by unfold bQ;simp
  simp only[bI,aU,aA,aH,aC,nA,au,List.length_singleton,hl,He,xB,mg];rw[if_pos (by omega)];have e1:bP .i64 (k:Int) 1=((k+1:Nat):Int):=by rw[dh (by omega)];rfl
  rw[e1];by_cases he:k=s.length
  ·rw[if_pos (by omega),if_pos (by omega),if_pos (by omega)]
   obtain⟨n,rfl⟩: ∃n',n=n'+1:=⟨n-1,by omega⟩
   (rw[Ct];(conv=>zeta))
   simp only[bI,aU,aA,au];rw[if_neg (by omega)];have h2:s.drop k=[]:=List.drop_of_length_le (by omega);rw[h2,aJ.abn] at hr;rw[hr];rfl
  ·rw[if_neg (by omega),if_pos (by omega)]
   have hlt:k<s.length:=by omega
   rw[oD s k hlt] at hr;by_cases hc:s.getD k 0=58
   ·rw[if_pos (by rw[hc];rfl),if_pos (by omega),if_pos (by omega)]
    refine ih (k+1) (k+1) _ (by omega) (by omega) (by simp;omega) (by omega) ?_;rw[hc,aJ.Ty] at hr;rw[←hr,show k+1-(k+1)=0 by omega,List.take_zero,aJ.Pm];simp
   ·rw[if_neg (by intro h;apply hc;apply UInt8.toNat_inj.1;show _=58;omega)]
    refine ih (k+1) a L (by omega) (by omega) (by omega) (by omega) ?_;rw[aJ.Tz _ _ _ hc] at hr;rw[O4 s a k ha hlt];exact hr
theorem toA {f:Nat} {args:List V} {r:V} (h:af nE f args r):af aE f args r:=af.env (E:=nE) rfl (fun n v h=>by cases h) h
theorem TA (s:List UInt8) (hc:ak (ah s) 9223372036854775806=true):af aE 124 [.str s] (.bool (yD s)):=by
 rw[aA,au] at hc;exact toA (S9 _ (by omega))
theorem Xd (s sep:List UInt8) (hc:av (seq sep [58]) (ak (ah s) 1000)=true):af aE 138 [.str s,.str sep] (.sl 9 [.str] none (eT s)):=by
 rw[aC,aA,dH,au] at hc;obtain⟨rfl,hc⟩:=hc;have e:=aJ.Cs s;have c:=IW (E:=aE) (f:=138) (T:=9) (mx:=0) (mv:=uT.val) rfl s [58] (by decide) (by omega) (fun s sep m w h1 h2 h3=>Go.Proofs.Tryz.strings_Split s sep m w h1 h2 h3);rw[e] at c;exact c
theorem Uv:bF aE aS:=by
 unfold aS;refine bF.cons (fun args r h=>?_) (bF.cons (fun args r h=>?_) bF.nil);all_goals (revert h;intro h;first|unfold U4 at h|unfold ZX at h)
 all_goals (split at h;rotate_left; · cases h)
 all_goals (simp only[Option.some.injEq,Prod.mk.injEq] at h;obtain⟨hc,rfl⟩:=h)
 ·exact TA _ hc
 ·exact Xd _ _ hc
theorem cut_ev (s:List UInt8) (hs:s.length≤1000):af aE 82 [.str s] (.sl 9 [.str] (some 3) (eT s)):=by
 refine ai Bf Uv (s.length+5) 1 ?_;rw[abo];refine Xc _ _ s hs _ 0 0 [] (by omega) (by omega) (by simp) (by omega) ?_;exact aJ.Pm _
theorem TB (s:List UInt8) (hd:s.all isDigit=true) (hl:s.length≤3) (k:Nat) (hk:k<s.length):
  48≤(s.getD k 0).toNat∧(s.getD k 0).toNat≤57∧(val (s.take (k+1)):Int)=10*(val (s.take k):Int)+(((s.getD k 0).toNat:Int)-48)∧val (s.take (k+1))<1000:=by
 have h1:isDigit (s.getD k 0)=true:=by
  rw[List.all_eq_true] at hd;refine hd _ ?_;rw[List.getD_eq_getElem?_getD,List.getElem?_eq_getElem hk];exact List.getElem_mem hk
 rw[jL] at h1;have h2:=mq s k hk;have h3:=Gx s hd (k+1);have h4:10 ^ (k+1)≤10 ^ 3:=Nat.pow_le_pow_right (by decide) (by omega);exact⟨h1.1,h1.2,by omega,by omega⟩
theorem TC (F:Nat) (K:V→Option V) (s:List UInt8) (l m:Int) (hd:s.all isDigit=true) (hl:s.length≤3): ∀(n k:Nat),k≤s.length→s.length-k<n→
  BQ F [] n s l m false (val (s.take k):Int) (k:Int) K=K (.tup [.int .i64 (val s:Int),.bool true]):=by
 intro n;induction n with
 |zero=>intro k _ h;omega
 |succ n ih=>
  intro k hk hn
  (rw[Jv];(conv=>zeta))
  simp only[bI,aU,aA,aC,au,mg];by_cases he:k=s.length
  ·rw[if_neg (by omega),he,List.take_length]
  ·obtain⟨h1,h2,h3,h4⟩:=TB s hd hl k (by omega)
   rw[if_pos (by omega),if_pos (by omega)];have e1:bP .i64 (k:Int) 1=((k+1:Nat):Int):=by rw[dh (by omega)];rfl
   have e2:bP .i64 (AZ .i64 10 (val (s.take k):Int)) (y8 .i64 (nP .u8 ((s.getD k 0).toNat:Int) 48))=(val (s.take (k+1)):Int):=by
    rw[ZL (by omega),ZK (by omega),L8 (by omega),dh (by omega)];omega
   rw[e1,e2];exact ih (k+1) (by omega) (by omega)
theorem sj (s:List UInt8) (l m:Int):pok s l m=true↔(l≤(s.length:Int)∧(s.length:Int)≤m∧s.all isDigit=true):=by
 unfold pok;rw[Bool.and_eq_true,Bool.and_eq_true,decide_eq_true_eq,decide_eq_true_eq,and_assoc]
noncomputable def J8 (s:List UInt8) (l m:Int):V:=.tup [.int .i64 (mR s l m),.bool (vH s l m)]
theorem U5 {s:List UInt8} {l m:Int} (h:pok s l m=true):J8 s l m=.tup [.int .i64 (val s:Int),.bool true]:=by
 unfold J8 mR vH;rw[if_pos h,h]
theorem yH {s:List UInt8} {l m:Int} (h: ¬pok s l m=true):J8 s l m=.tup [.int .i64 0,.bool false]:=by
 unfold J8 mR vH;rw[if_neg h,Bool.eq_false_iff.2 h]
theorem abp (s:List UInt8) (l m:Int) (hl:1≤l) (hm:m≤3):af aE 83 [.str s,.int .i64 l,.int .i64 m] (J8 s l m):=by
 refine ai Bf Uv 5 1 ?_
 (rw[WZ];(conv=>zeta))
 simp only[bI,aU,aA,bE,au];by_cases h1:(s.length:Int)<l
 ·rw[if_pos h1,yH (by rw[sj];omega)]
 ·rw[if_neg h1]
  by_cases h2:m<(s.length:Int)
  ·rw[if_pos h2,yH (by rw[sj];omega)]
  ·rw[if_neg h2,if_pos (by omega)]
   have hne:s.isEmpty=false:=by cases s with
    |nil=>simp at h1;omega
    |cons c t=>rfl
   by_cases h3:s.all isDigit=true
   ·rw[if_neg (by unfold yD;rw[h3,hne];simp),U5 (by rw[sj];exact⟨by omega,by omega,h3⟩)]
    exact TC 5 some s l m h3 (by omega) 5 0 (by omega) (by omega)
   ·rw[if_pos (by unfold yD;rw[Bool.eq_false_iff.2 h3];simp),yH (by rw[sj];exact fun h=>h3 h.2.2)]
theorem Xe (s:List UInt8) (k:Nat) (hk:k<s.length):asInt (aD (aY (aZ s) (k:Int)) 0)=((s.getD k 0).toNat:Int):=by
 unfold aZ;rw[uz,List.getD_eq_getElem?_getD,List.getElem?_map,List.getElem?_eq_getElem hk,List.getD_eq_getElem?_getD,List.getElem?_eq_getElem hk];rfl
theorem TD (F:Nat) (K:V→Option V) (s:List UInt8) (l m u x4:Int) (hl:s.length≤3): ∀(n k:Nat),k≤s.length→s.length-k<n→(s.take k).all isDigit=true→
  BR F [] n l m u s x4 false (val (s.take k):Int) (aZ s) (s.length:Int) (k:Int) l m u K=K (if s.all isDigit=true then .tup [.int .i64 (val s:Int),.bool true] else .tup [.int .i64 0,.bool false]):=by
 intro n;induction n with
 |zero=>intro k _ h;omega
 |succ n ih=>
  intro k hk hn hd
  (rw[Jw];(conv=>zeta))
  have hb:(aZ s).length=s.length:=by unfold aZ;simp
  simp only[bI,aU,aA,aC,au,aI,hb];by_cases he:k=s.length
  ·rw[if_neg (by omega)]
   rw[he,List.take_length] at hd⊢;rw[if_pos hd]
  ·have hlt:k<s.length:=by omega
   rw[if_pos (by omega),if_pos (by omega),Xe s k hlt];have hmem:s.getD k 0∈s:=by
    rw[List.getD_eq_getElem?_getD,List.getElem?_eq_getElem hlt];exact List.getElem_mem hlt
   by_cases h1:(s.getD k 0).toNat<48
   ·rw[if_pos (by omega),if_neg]
    intro ha;have:=(jL _).1 (List.all_eq_true.1 ha _ hmem);omega
   ·rw[if_neg (by omega)]
    by_cases h2:57<(s.getD k 0).toNat
    ·rw[if_pos (by omega),if_neg]
     intro ha;have:=(jL _).1 (List.all_eq_true.1 ha _ hmem);omega
    ·rw[if_neg (by omega)]
     have hd1:(s.take (k+1)).all isDigit=true:=by
      rw[List.take_add_one,List.getElem?_eq_getElem hlt,List.all_append,hd];rw[List.getD_eq_getElem?_getD,List.getElem?_eq_getElem hlt] at h1 h2;simp only[Option.getD_some] at h1 h2;have:isDigit s[k]=true:=(jL _).2 ⟨by omega,by omega⟩;simp[this]
     have hv:=mq s k hlt;have hv3:=Gx (s.take (k+1)) hd1 (k+1);rw[List.take_take,Nat.min_self] at hv3;have h4:10 ^ (k+1)≤10 ^ 3:=Nat.pow_le_pow_right (by decide) (by omega);have e1:bP .i64 (k:Int) 1=((k+1:Nat):Int):=by rw[dh (by omega)];rfl
     have e2:bP .i64 (AZ .i64 (val (s.take k):Int) 10) (y8 .i64 (nP .u8 ((s.getD k 0).toNat:Int) 48))=(val (s.take (k+1)):Int):=by
      rw[ZL (by omega),ZK (by omega),L8 (by omega),dh (by omega)];omega
     rw[e1,e2];exact ih (k+1) (by omega) (by omega) hd1
theorem abq (s:List UInt8) (l m u:Int) (hl:1≤l) (hm:m≤3):af aE 139 [.agg [.int .i64 l,.int .i64 m,.int .i64 u],.str s] (J8 s l m):=by
 refine ai Bf Uv 5 1 ?_
 (rw[W9];(conv=>zeta))
 simp only[bI,aU,aA,Dt,au];by_cases h1:(s.length:Int)<l
 ·rw[if_pos h1,yH (by rw[sj];omega)]
 ·rw[if_neg h1]
  by_cases h2:m<(s.length:Int)
  ·rw[if_pos h2,yH (by rw[sj];omega)]
  ·rw[if_neg h2,if_pos (by omega)]
   have hb:ax (aZ s)=(s.length:Int):=by unfold ax aZ;simp
   rw[hb];have:=TD 5 some s l m u 0 (by omega) 5 0 (by omega) (by omega) rfl;by_cases h3:s.all isDigit=true
   ·rw[U5 (by rw[sj];exact⟨by omega,by omega,h3⟩)]
    rw[if_pos h3] at this;exact this
   ·rw[yH (by rw[sj];exact fun h=>h3 h.2.2)]
    rw[if_neg h3] at this;exact this
noncomputable def tblV:List V:=[V.agg [V.int .i64 1,V.int .i64 3,V.int .i64 3600],V.agg [V.int .i64 2,V.int .i64 2,V.int .i64 60],V.agg [V.int .i64 2,V.int .i64 2,V.int .i64 1]]
theorem abr:[V.agg [V.int .i64 1,V.int .i64 3,V.int .i64 3600],V.agg [V.int .i64 2,V.int .i64 2,V.int .i64 60],V.agg [V.int .i64 2,V.int .i64 2,V.int .i64 1]]=tblV:=rfl
theorem tbl_at: ∀k:Nat,k<3→asInt (aD (aY tblV (k:Int)) 0)=(aJ.least k:Int)∧asInt (aD (aY tblV (k:Int)) 1)=(aJ.most k:Int)∧asInt (aD (aY tblV (k:Int)) 2)=(aJ.unit k:Int)
 |0,_=>⟨rfl,rfl,rfl⟩
 |1,_=>⟨rfl,rfl,rfl⟩
 |2,_=>⟨rfl,rfl,rfl⟩
 |n+3,h=>by omega
noncomputable def R6:List V:=[V.int .i64 3600,V.int .i64 60,V.int .i64 1]
theorem TE:[V.int .i64 3600,V.int .i64 60,V.int .i64 1]=R6:=rfl
theorem Xf:ax R6=3:=rfl
theorem abt: ∀k:Nat,k<3→asInt (aD (aY R6 (k:Int)) 0)=(aJ.unit k:Int)
 |0,_=>rfl
 |1,_=>rfl
 |2,_=>rfl
 |n+3,h=>by omega
theorem ZY (P:List (List UInt8)) (k:Nat) (hk:k<P.length):aT (aD (aY (bQ P) (k:Int)) 0)=P.getD k []:=by
 unfold bQ;rw[uz,List.getD_eq_getElem?_getD,List.getElem?_map,List.getElem?_eq_getElem hk,List.getD_eq_getElem?_getD,List.getElem?_eq_getElem hk];rfl
theorem U6 (s:List UInt8) (l m:Nat):pok s (l:Int) (m:Int)=aJ.ok s l m:=by
 unfold pok aJ.ok;congr 2
 ·apply decide_eq_decide.2;omega
 ·apply decide_eq_decide.2;omega
theorem K6 (s:List UInt8) (l m:Nat):vH s (l:Int) (m:Int)=aJ.ok s l m:=U6 s l m
theorem K7 {s:List UInt8} {l m:Nat} (h:aJ.ok s l m=true):mR s (l:Int) (m:Int)=(val s:Int):=by unfold mR;rw[U6,if_pos h]
theorem ZZ {s:List UInt8} {l m:Nat} (hm:m≤3) (h:aJ.ok s l m=true):val s≤999:=by
 unfold aJ.ok at h;rw[Bool.and_eq_true,Bool.and_eq_true,decide_eq_true_eq,decide_eq_true_eq] at h;have h3:=Gx s h.2 s.length;rw[List.take_length] at h3;have h4:10 ^ s.length≤10 ^ 3:=Nat.pow_le_pow_right (by decide) (by omega);omega
theorem U7 (k:Nat):aJ.most k≤3∧1≤aJ.least k∧aJ.unit k≤3600:=by
 unfold aJ.most aJ.least aJ.unit;split<;>(try split)<;>omega
def wN (P:List (List UInt8)) (below:Bool):V:=.tup [.int .i64 (aJ.told P below).1,.int .i64 (aJ.told P below).2]
theorem Pn {P:List (List UInt8)} {b:Bool} {k:Nat} (hk:k<P.length) (h: ¬aJ.ok (P.getD k []) (aJ.least k) (aJ.most k)=true):aJ.told P b=(0,2):=by
 have:aJ.uo P P.length=false:=by
  rw[Bool.eq_false_iff];intro hg;have:=aJ.abm P (k+1) P.length hk hg;unfold aJ.uo at this;rw[Bool.and_eq_true] at this;exact h this.2
 unfold aJ.told;rw[this];simp
theorem TF (F:Nat) (K:V→Option V) (s rest:List UInt8) (x2 x3:Int) (x6:List V) (below:Bool) (P:List (List UInt8)) (hP:P.length≤3): ∀(n k:Nat),k≤P.length→P.length-k<n→
  aJ.uo P k=true→aJ.qy P k≤k*3596400→
  qO F [] n s x2 x3 rest below x6 (if aJ.mQ P k then 0 else 1) (aJ.qy P k:Int) (bQ P) (P.length:Int) (k:Int) K=K (wN P below):=by
 intro n;induction n with
 |zero=>intro k _ h;omega
 |succ n ih=>
  intro k hk hn hg hs
  (rw[Jy];(conv=>zeta))
  by_cases he:k=P.length
  ·subst he
   simp only[bI,aU,aA,aH,bE];rw[if_neg (by omega)];unfold wN aJ.told;rw[decide_eq_false (by omega: ¬3<P.length),hg];by_cases hf:aJ.mQ P P.length=true
   ·rw[if_pos hf,if_neg (by omega),hf]
    by_cases h6:604800≤aJ.qy P P.length
    ·rw[if_pos (by omega),decide_eq_true h6];rfl
    ·rw[if_neg (by omega),decide_eq_false h6]
     cases below with
     |true=>
      rw[if_pos rfl,wV (by omega)];simp
     |false=>rw[if_neg (by simp)];rfl
   ·rw[if_neg hf,if_pos (by omega),Bool.eq_false_iff.2 hf];rfl
  ·have hlt:k<P.length:=by omega
   have hl:(bQ P).length=P.length:=lS P;obtain⟨t0,t1,t2⟩:=tbl_at k (by omega);obtain⟨m1,m2,m3⟩:=U7 k;simp only[abr,t0,t1,t2,ZY P k hlt,K6];rw[aj (bq (by omega)),aj (by rw[aC];exact⟨bA (by omega),bq (by rw[aI,hl];omega)⟩),aj (by rw[aC];exact⟨bA (by omega),bq (by omega)⟩),aj (by rw[aC];exact⟨bA (by omega),bA (by omega)⟩)];by_cases hok:aJ.ok (P.getD k []) (aJ.least k) (aJ.most k)=true
   ·have hv:=ZZ m1 hok
    simp only[K7 hok];rw[aG (by rw[hok];rfl)];have hmul:val (P.getD k [])*aJ.unit k≤999*3600:=Nat.mul_le_mul hv m3;have e1:bP .i64 (k:Int) 1=((k+1:Nat):Int):=by rw[dh (by omega)];rfl
    have e2:bP .i64 (aJ.qy P k:Int) (AZ .i64 (val (P.getD k []):Int) (aJ.unit k:Int))=((aJ.qy P (k+1):Nat):Int):=by
     have e3:(val (P.getD k []):Int)*(aJ.unit k:Int)=((val (P.getD k [])*aJ.unit k:Nat):Int):=by rw[Int.natCast_mul]
     rw[L8 (by rw[e3];omega),e3,dh (by omega)];show _=((aJ.qy P k+val (P.getD k [])*aJ.unit k:Nat):Int)
     omega
    have hg1:aJ.uo P (k+1)=true:=by unfold aJ.uo;rw[hg,hok];rfl
    have hs1:aJ.qy P (k+1)≤(k+1)*3596400:=by
     show aJ.qy P k+val (P.getD k [])*aJ.unit k≤_;omega
    have hnext:=ih (k+1) (by omega) (by omega) hg1 hs1;have hb3:av (ak 0 (k:Int)) (aK (k:Int) 3)=true:=by rw[aC];exact⟨bA (by omega),bq (by omega)⟩
    rw[e1,e2];by_cases hk0:k=0
    ·rw[aG (bu (by omega)),aj hb3]
     have:aJ.mQ P (k+1)=aJ.mQ P k:=by
      show(aJ.mQ P k&&(decide (k=0)||_))=_;rw[decide_eq_true hk0];simp
     rw[←this];exact hnext
    ·rw[aj (bq (by omega))]
     by_cases h60:60≤val (P.getD k [])
     ·rw[aj (bA (by omega)),aj hb3]
      have:aJ.mQ P (k+1)=false:=by
       show(aJ.mQ P k&&(decide (k=0)||decide (val (P.getD k [])≤59)))=_;rw[decide_eq_false hk0,decide_eq_false (by omega)];simp
      rw[this] at hnext;exact hnext
     ·rw[aG (zq (by omega)),aj hb3]
      have:aJ.mQ P (k+1)=aJ.mQ P k:=by
       show(aJ.mQ P k&&(decide (k=0)||decide (val (P.getD k [])≤59)))=_;rw[decide_eq_false hk0,decide_eq_true (by omega)];simp
      rw[←this];exact hnext
   ·rw[aj (by rw[bE];exact hok)]
    unfold wN;rw[Pn hlt hok]
theorem TG (F:Nat) (K:V→Option V) (s d:List UInt8) (x2 x3:Int) (x5:List V) (hd:d.length≤s.length) (P:List (List UInt8)) (hP:P.length≤3): ∀(n k:Nat),k≤P.length→P.length-k<n→
  aJ.uo P k=true→aJ.qy P k≤k*3596400→
  gV F [] n s x2 x3 d x5 (aJ.qy P k:Int) (aJ.mQ P k) (bQ P) (P.length:Int) (k:Int) K=K (wN P (decide (d.length<s.length))):=by
 intro n;induction n with
 |zero=>intro k _ h;omega
 |succ n ih=>
  intro k hk hn hg hs
  (rw[Jz];(conv=>zeta))
  by_cases he:k=P.length
  ·subst he
   simp only[bI,aU,aA,aH,bE,au];rw[if_neg (by omega)];unfold wN aJ.told;rw[decide_eq_false (by omega: ¬3<P.length),hg];by_cases hf:aJ.mQ P P.length=true
   ·rw[if_neg (by rw[hf];simp),hf]
    by_cases h6:604800≤aJ.qy P P.length
    ·rw[if_pos (by omega),decide_eq_true h6];rfl
    ·rw[if_neg (by omega),decide_eq_false h6]
     by_cases hb:d.length<s.length
     ·rw[if_pos (by omega),wV (by omega),decide_eq_true hb]
      simp
     ·rw[if_neg (by omega),decide_eq_false hb];rfl
   ·rw[if_pos hf,Bool.eq_false_iff.2 hf];rfl
  ·have hlt:k<P.length:=by omega
   have hl:(bQ P).length=P.length:=lS P;obtain⟨m1,m2,m3⟩:=U7 k;simp only[TE,Xf,abt k (by omega),ZY P k hlt];rw[aj (bq (by omega)),aj (by rw[aC];exact⟨bA (by omega),bq (by rw[aI,hl];omega)⟩)];have hb3:av (ak 0 (k:Int)) (aK (k:Int) 3)=true:=by rw[aC];exact⟨bA (by omega),bq (by omega)⟩
   have both: ∀(l m:Nat),l=aJ.least k→m=aJ.most k→sel (av (ak 1 (l:Int)) (ak (m:Int) 3))
      (sel (aB (vH (P.getD k []) (l:Int) (m:Int)))
       (K (V.tup [V.int .i64 0,V.int .i64 2]))
       (sel (aJ.mQ P k)
        (sel (ieq (k:Int) 0)
         (sel (av (ak 0 (k:Int)) (aK (k:Int) 3))
          (gV F [] n s x2 x3 d x5 (bP .i64 (aJ.qy P k:Int) (AZ .i64 (mR (P.getD k []) (l:Int) (m:Int)) (aJ.unit k:Int))) true (bQ P) (P.length:Int) (bP .i64 (k:Int) 1) K)
          none)
         (sel (av (ak 0 (k:Int)) (aK (k:Int) 3))
          (gV F [] n s x2 x3 d x5 (bP .i64 (aJ.qy P k:Int) (AZ .i64 (mR (P.getD k []) (l:Int) (m:Int)) (aJ.unit k:Int))) (ak (mR (P.getD k []) (l:Int) (m:Int)) 59) (bQ P) (P.length:Int) (bP .i64 (k:Int) 1) K)
          none))
        (sel (av (ak 0 (k:Int)) (aK (k:Int) 3))
         (gV F [] n s x2 x3 d x5 (bP .i64 (aJ.qy P k:Int) (AZ .i64 (mR (P.getD k []) (l:Int) (m:Int)) (aJ.unit k:Int))) false (bQ P) (P.length:Int) (bP .i64 (k:Int) 1) K)
         none)))
      none=K (wN P (decide (d.length<s.length))):=by
    rintro l m rfl rfl;rw[aj (by rw[aC];exact⟨bA (by omega),bA (by omega)⟩),K6];by_cases hok:aJ.ok (P.getD k []) (aJ.least k) (aJ.most k)=true
    ·have hv:=ZZ m1 hok
     simp only[K7 hok];rw[aG (by rw[hok];rfl)];have hmul:val (P.getD k [])*aJ.unit k≤999*3600:=Nat.mul_le_mul hv m3;have e1:bP .i64 (k:Int) 1=((k+1:Nat):Int):=by rw[dh (by omega)];rfl
     have e2:bP .i64 (aJ.qy P k:Int) (AZ .i64 (val (P.getD k []):Int) (aJ.unit k:Int))=((aJ.qy P (k+1):Nat):Int):=by
      have e3:(val (P.getD k []):Int)*(aJ.unit k:Int)=((val (P.getD k [])*aJ.unit k:Nat):Int):=by rw[Int.natCast_mul]
      rw[L8 (by rw[e3];omega),e3,dh (by omega)];show _=((aJ.qy P k+val (P.getD k [])*aJ.unit k:Nat):Int)
      omega
     have hg1:aJ.uo P (k+1)=true:=by unfold aJ.uo;rw[hg,hok];rfl
     have hs1:aJ.qy P (k+1)≤(k+1)*3596400:=by
      show aJ.qy P k+val (P.getD k [])*aJ.unit k≤_;omega
     have hnext:=ih (k+1) (by omega) (by omega) hg1 hs1;have hfit:aJ.mQ P (k+1)=(aJ.mQ P k&&(decide (k=0)||decide (val (P.getD k [])≤59))):=rfl;rw[e1,e2];by_cases hf:aJ.mQ P k=true
     ·rw[aj hf]
      rw[hf,Bool.true_and] at hfit;by_cases hk0:k=0
      ·rw[aj (aR (by omega)),aj hb3]
       rw[hfit,decide_eq_true hk0,Bool.true_or] at hnext;exact hnext
      ·rw[aG (bf (by omega)),aj hb3]
       rw[hfit,decide_eq_false hk0,Bool.false_or] at hnext;have:ak (val (P.getD k []):Int) 59=decide (val (P.getD k [])≤59):=by
        unfold ak;apply decide_eq_decide.2;omega
       rw[this];exact hnext
     ·rw[aG (Bool.eq_false_iff.2 hf),aj hb3]
      rw[hfit,Bool.eq_false_iff.2 hf,Bool.false_and] at hnext;exact hnext
    ·rw[aj (by rw[bE];exact hok)]
     unfold wN;rw[Pn hlt hok]
   by_cases hk0:k=0
   ·rw[aj (aR (by omega))]
    have h:=both 1 3 (by rw[hk0];rfl) (by rw[hk0];rfl);exact h
   ·rw[aG (bf (by omega))]
    have h:=both 2 2 (by unfold aJ.least;rw[if_neg hk0]) (by unfold aJ.most;rw[if_neg hk0]);exact h
def Ov (s:List UInt8):V:=.tup [.int .i64 (aJ.read s).1,.int .i64 (aJ.read s).2]
theorem cutS_ok (s:List UInt8) (hc:ak (ah s) 1000=true):af aE 82 [.str s] (.sl 9 [.str] (some 0) (eT s)):=by
 rw[aA,au] at hc;exact fun G w vs h1 h2 h3=>cut_ev s (by omega) G w vs h1 h2 h3
theorem abu (s:List UInt8) (l m:Int) (hc:av (ak 1 l) (ak m 3)=true):af aE 83 [.str s,.int .i64 l,.int .i64 m] (.tup [.int .i64 (mR s l m),.bool (vH s l m)]):=by
 rw[aC,aA,aA] at hc;exact abp _ _ _ hc.1 hc.2
theorem abv (l m u:Int) (s:List UInt8) (hc:av (ak 1 l) (ak m 3)=true):af aE 139 [.agg [.int .i64 l,.int .i64 m,.int .i64 u],.str s] (.tup [.int .i64 (mR s l m),.bool (vH s l m)]):=by
 rw[aC,aA,aA] at hc;exact abq _ _ _ _ hc.1 hc.2
theorem bS_ok:bF aE bS:=by
 unfold bS;refine bF.cons (fun args r h=>?_) (bF.cons (fun args r h=>?_) (bF.cons (fun args r h=>?_) Uv));all_goals (revert h;intro h;first|unfold cutS at h|unfold partS at h|unfold readS at h)
 all_goals (split at h;rotate_left; · cases h)
 all_goals (simp only[Option.some.injEq,Prod.mk.injEq] at h;obtain⟨hc,rfl⟩:=h)
 ·exact cutS_ok _ hc
 ·exact abu _ _ _ hc
 ·exact abv _ _ _ _ hc
theorem K8 {P:List (List UInt8)} {b:Bool} (h:3<P.length):aJ.told P b=(0,2):=by
 unfold aJ.told;rw[decide_eq_true h];rfl
theorem EH (s:List UInt8):ax (eT s)=((aJ.pieces s).length:Int):=by unfold ax eT;rw[lS]
theorem Pj (s:List UInt8) (hs:s.length≤1000):af aE 104 [.str s] (Ov s):=by
 refine ai Bf bS_ok 5 3 ?_
 (rw[Xa];(conv=>zeta))
 have rest: ∀(d:List UInt8) (below:Bool),d.length≤1000→sel (av (seq [58] [58]) (ak (ah d) 1000))
    (sel (aK 3 (ax (eT d)))
     (some (V.tup [V.int .i64 0,V.int .i64 2]))
     (qO 5 [] 5 s 0 0 d below (eT d) 0 0 (eT d) (ax (eT d)) 0 some))
    none=some (wN (aJ.pieces d) below):=by
  intro d below hd;rw[aj (by rw[aC];exact⟨rfl,bA (by rw[au];omega)⟩),EH];by_cases h3:3<(aJ.pieces d).length
  ·rw[aj (bq (by omega))]
   unfold wN;rw[K8 h3]
  ·rw[aG (bu (by omega))]
   exact TF 5 some s d 0 0 (eT d) below (aJ.pieces d) (by omega) 5 0 (by omega) (by omega) rfl (by show 0≤_;omega)
 cases s with
 |nil=>
  rw[aG (zq (by decide))];exact rest [] false (by simp)
 |cons c t=>
  have hlen:ah (c::t)=(t.length:Int)+1:=by rw[au,List.length_cons];omega
  have e1:bU (c::t) 0 (ah [45])=[c]:=rfl;have e2:bU (c::t) (ah [45]) (ah (c::t))=t:=by
   rw[show ah [45]=((1:Nat):Int) from rfl,au,xB];simp
  have h45:ah [45]=1:=rfl;rw[e1,e2,aj (bA (by rw[h45,hlen];omega)),aj (by rw[aC];exact⟨by decide,bA (by rw[h45,hlen];omega)⟩)];by_cases hc:c=45
  ·subst hc
   rw[aG (by decide),aj (by rw[aC];exact⟨by decide,bA (by rw[h45,hlen];omega)⟩)];by_cases ht:t=[]
   ·subst ht
    rw[aj (by decide)];rfl
   ·rw[aG (by rw[Bool.eq_false_iff,ne_eq,dH];exact ht),rest t true (by simp at hs;omega)]
    unfold Ov aJ.read;rw[if_neg (by simpa using ht)];rfl
  ·rw[aj (by rw[bE,dH];simpa using hc),rest (c::t) false hs]
   have hm:minus (c::t)=false:=by unfold minus;simpa using hc
   unfold Ov aJ.read bare;rw[if_neg (by simp[hc]),hm];rfl
theorem Pk (s:List UInt8) (hs:s.length≤1000):af aE 56 [.str s] (Ov s):=by
 refine ai Bf bS_ok 5 2 ?_
 (rw[Xb];(conv=>zeta))
 have rest: ∀(d:List UInt8),d.length≤s.length→sel (ak (ah d) 1000)
    (sel (aK 3 (ax (eT d)))
     (some (V.tup [V.int .i64 0,V.int .i64 2]))
     (gV 5 [] 5 s 0 0 d (eT d) 0 true (eT d) (ax (eT d)) 0 some))
    none=some (wN (aJ.pieces d) (decide (d.length<s.length))):=by
  intro d hd;rw[aj (bA (by rw[au];omega)),EH];by_cases h3:3<(aJ.pieces d).length
  ·rw[aj (bq (by omega))]
   unfold wN;rw[K8 h3]
  ·rw[aG (bu (by omega))]
   exact TG 5 some s d 0 0 (eT d) hd (aJ.pieces d) (by omega) 5 0 (by omega) (by omega) rfl (by show 0≤_;omega)
 unfold Ov aJ.read;by_cases hm:s=[45]
 ·subst hm
  rw[aj (by decide)];rfl
 ·rw[aG (by rw[Bool.eq_false_iff,ne_eq,dH];exact hm),if_neg hm]
  cases s with
  |nil=>
   rw[aG (bu (by decide))];exact rest [] (by simp)
  |cons c t=>
   have hlen:ah (c::t)=(t.length:Int)+1:=by rw[au,List.length_cons];omega
   have e2:bU (c::t) 1 (ah (c::t))=t:=by
    rw[show(1:Int)=((1:Nat):Int) from rfl,au,xB];simp
   have e3:sat (c::t) 0=(c.toNat:Int):=rfl;rw[e2,e3,aj (bq (by rw[hlen];omega)),aj (by rw[aC];exact⟨by decide,bq (by rw[hlen];omega)⟩)];by_cases hc:c=45
   ·subst hc
    rw[aj (by decide),aj (by rw[aC];exact⟨by decide,bA (by rw[hlen];omega)⟩),rest t (by simp),decide_eq_true (by simp)];rfl
   ·have hm:minus (c::t)=false:=by unfold minus;simpa using hc
    rw[aG (bf (by intro h;apply hc;apply UInt8.toNat_inj.1;show _=45;omega)),rest (c::t) (Nat.le_refl _),decide_eq_false (by omega)];unfold bare;rw[hm];rfl
end Nt.Ev.YtpbgegnlkdfjgaaGreatDoor
