/-
  Year: equations of functions, as the evaluator prints them. Years: what the program's functions and the document's answer. YearLaw: equations of functions, as the evaluator prints them. Years: the statements YearTells and YearBack.
-/
import Derived.Test.YtplklcejbmfgdaaGreatDoorME
import Derived.Test.YtplklcejbmfgdaaGreatDoorMC
set_option linter.unusedVariables false
set_option linter.unusedSimpArgs false
set_option linter.unusedSectionVars false
namespace Nt.Ev.YtplklcejbmfgdaaGreatDoor
set_option maxRecDepth 100000
open Go Nt.Num Go.Proofs.YtplklcejbmfgdaaGreatDoor
noncomputable def yE:Env:=⟨Go.Proofs.Tryz.prog,fun _=>none⟩
noncomputable def nReadS:aG:=fun a=>match a with|[.str s]=>some (ak (au s) 1000,.tup [.int .i64 (ig s),.int .i64 (nrW s)])|_=>none
noncomputable def nTextS:aG:=fun a=>match a with|[.int .i64 m]=>some (ai (ak (-9223372036854775808) m) (ak m 9223372036854775807),.str (text m))|_=>none
noncomputable def matchS:aG:=fun a=>match a with|[.str s,.sl e [.str] o ws]=>some (ai (ak (au s) 1000) (ug ws),.tup [.int .i64 (mh s ws),.int .i64 (oM s ws)])|_=>none
noncomputable def idxS:aG:=fun a=>match a with|[.str s,.int .u8 c]=>some (true,.int .i64 (uF s c))|_=>none
noncomputable def yS:List (Nat×aG):=(173,nReadS)::(63,nTextS)::(89,matchS)::(43,idxS)::[]
theorem YG (F:Nat) (s:List UInt8) (K:V→Option V):
 bW yE (bT yE yS F 4) F 155 [V.str s] K=
 let B:=[V.str [109,105,110,105,109,117,109],V.str [109,97,120,105,109,117,109],V.str [111,110,108,121]];let D:=V.int .i64 0;let H:=ak (au s) 1000;let C:=sel (aK (ieq (nrW s) 0)) (K (V.tup [D,V.int .i64 (nrW s)])) (K (V.tup [V.int .i64 (ig s),D]));let E:=K (V.tup [D,V.int .i64 1]);let G:=K (V.tup [D,V.int .i64 3]);let A:=sel (ai H (ug B)) (sel (aK (ieq (oM s B) 0)) G (sel (aK (ieq (mh s B) 0)) G (K (V.tup [V.int .i64 (-32767),D])))) (none);sel (seq s []) A (sel (ai (ak 0 0) (aU 0 (au s))) (sel (aU (uF [45,48,49,50,51,52,53,54,55,56,57] (sat s 0)) 0) A (sel H (sel (ieq (nrW s) 0) (sel (ak (-32767) (ig s)) (sel (aK (ak (ig s) 32767)) E C) E) C) none)) none):=by kernel_rfl
theorem yTo_top (F:Nat) (s:List UInt8) (n:Int) (K:V→Option V):
 bW yE (bT yE yS F 4) F 156 [V.str s,V.int .i64 n] K=
 let A:=[V.str [109,105,110,105,109,117,109],V.str [109,97,120,105,109,117,109],V.str [111,110,108,121]];let G:=V.int .i64 0;let P:=ieq (nrW s) 0;let Q:=ak (au s) 1000;let E:=K (V.tup [G,V.int .i64 14]);let H:=V.int .i64 (oM s A);let I:=ieq (oM s A) 0;let J:=K (V.tup [G,V.int .i64 (nrW s)]);let M:=K (V.tup [G,V.int .i64 1]);let O:=K (V.tup [G,V.int .i64 3]);let C:=sel (aK P) (sel P (sel (aU 0 n) E J) J) (sel (aU (ig s) n) E (K (V.tup [V.int .i64 (ig s),G])));let L:=K (V.tup [V.int .i64 32767,H]);let N:=K (V.tup [V.int .i64 n,H]);let B:=sel I (sel (ieq (mh s A) 2) (sel I (sel (aU n n) E N) N) O) O;let D:=sel (ai Q (ug A)) (sel I (sel (ieq (mh s A) 1) (sel I (sel (aU 32767 n) E L) L) B) B) (none);sel (seq s []) D (sel (ai (ak 0 0) (aU 0 (au s))) (sel (aU (uF [45,48,49,50,51,52,53,54,55,56,57] (sat s 0)) 0) D (sel Q (sel P (sel (ak (-32767) (ig s)) (sel (aK (ak (ig s) 32767)) M C) M) C) none)) none):=by kernel_rfl
theorem JJ (F:Nat) (n:Int) (K:V→Option V):
 bW yE (bT yE yS F 4) F 37 [V.int .i64 n] K=
 let A:=K (V.tup [V.str [],V.int .i64 1]);sel (ak (-32767) n) (sel (aK (ak n 32767)) A (sel (ieq n (-32767)) (K (V.tup [V.str [109,105,110],V.int .i64 0])) (sel (ai (ak (-9223372036854775808) n) (ak n 9223372036854775807)) (K (V.tup [V.str (text n),V.int .i64 0])) none))) A:=by kernel_rfl
theorem Rs (F:Nat) (m n:Int) (K:V→Option V):
 bW yE (bT yE yS F 4) F 36 [V.int .i64 m,V.int .i64 n] K=
 let A:=K (V.tup [V.str [],V.int .i64 1]);let B:=V.int .i64 0;sel (ak (-32767) n) (sel (aK (ak n 32767)) A (sel (aU n m) (K (V.tup [V.str [],V.int .i64 14])) (sel (ieq n m) (K (V.tup [V.str [111,110,108,121],B])) (sel (ieq n 32767) (K (V.tup [V.str [109,97,120],B])) (sel (ai (ak (-9223372036854775808) n) (ak n 9223372036854775807)) (K (V.tup [V.str (text n),B])) none))))) A:=by kernel_rfl
open Nt
theorem Vo:tY yE:=⟨by kernel_rfl,by kernel_rfl⟩
theorem toY {f:Nat} {args:List V} {r:V} (h:af nE f args r):af yE f args r:=af.env (E:=nE) rfl (fun n v h=>by cases h) h
theorem len_of {s:List UInt8} (h:ak (au s) 1000=true):s.length≤1000:=by rw[ay,aC] at h;omega
theorem YH (s:List UInt8) (hc:ak (au s) 1000=true):af yE 173 [.str s] (.tup [.int .i64 (ig s),.int .i64 (nrW s)]):=toY (M8 s (len_of hc))
theorem fits_of {m:Int} (h:ai (ak (-9223372036854775808) m) (ak m 9223372036854775807)=true):Fits m:=by rw[aJ,ay,ay] at h;exact h
theorem YI (m:Int) (hc:ai (ak (-9223372036854775808) m) (ak m 9223372036854775807)=true):af yE 63 [.int .i64 m] (.str (text m)):=toY (Bl m (fits_of hc))
theorem YJ (s:List UInt8) (e:Nat) (o:Option Nat) (ws:List V) (hc:ai (ak (au s) 1000) (ug ws)=true):af yE 89 [.str s,.sl e [.str] o ws] (.tup [.int .i64 (mh s ws),.int .i64 (oM s ws)]):=by
 obtain⟨h1,h2⟩:=aR hc;exact toY (G9 s e o ws (len_of h1) h2)
theorem idxS_ok (s:List UInt8) (c:Int) (hc:true=true):af yE 43 [.str s,.int .u8 c] (.int .i64 (uF s c)):=toY (idx_c s c)
theorem Vp:bn yE yS:=by
 unfold yS;refine bn.cons (fun args r h=>?_) (bn.cons (fun args r h=>?_) (bn.cons (fun args r h=>?_) (bn.cons (fun args r h=>?_) bn.nil)));all_goals (revert h;intro h;first|unfold nReadS at h|unfold nTextS at h|unfold matchS at h|unfold idxS at h)
 all_goals (split at h;rotate_left; · cases h)
 all_goals (simp only[Option.some.injEq,Prod.mk.injEq] at h;obtain⟨hc,rfl⟩:=h)
 ·exact YH _ hc
 ·exact YI _ hc
 ·exact YJ _ _ _ _ hc
 ·exact idxS_ok _ _ rfl
def SA (c:UInt8):Bool:=decide (c.toNat=45)||(decide (48≤c.toNat)&&decide (c.toNat≤57))
def numeral:List UInt8→Bool
 |[]=>false
 |c::_=>SA c
theorem V9 (c:UInt8):aU (uF [45,48,49,50,51,52,53,54,55,56,57] ((c.toNat:Nat):Int)) 0= !SA c:=by
 have h: ∀n:Fin 256,aU (uF [45,48,49,50,51,52,53,54,55,56,57] ((n.val:Nat):Int)) 0= !SA (UInt8.ofNat n):=by decide+kernel
 have:=h ⟨c.toNat,c.toNat_lt⟩;simpa using this
def EC:List V:=[V.str [109,105,110,105,109,117,109],V.str [109,97,120,105,109,117,109],V.str [111,110,108,121]]
def uK (s:List UInt8):Int×Int:=if nrW s=0 then(if -32767≤ig s∧ig s≤32767 then(ig s,0) else(0,1)) else(0,nrW s)
def pz (s:List UInt8):Int×Int:=if numeral s=true then uK s else if oM s EC=0∧mh s EC=0 then(-32767,0) else(0,3)
def iR (s:List UInt8) (n:Int):Int×Int:=if numeral s=true then uK s else if oM s EC=0 then(if mh s EC=1 then(32767,0) else if mh s EC=2 then(n,0) else(0,3)) else(0,3)
def Cg (s:List UInt8) (n:Int):Int×Int:=if(iR s n).2=0∧(iR s n).1<n then(0,14) else iR s n
def Xv (p:Int×Int):V:=.tup [.int .i64 p.1,.int .i64 p.2]
theorem Wd (s:List UInt8) (ws:List V):oM s ws=0∨oM s ws=3:=by
 unfold oM;rcases Words.mt_err ⟨s.toArray⟩ (RY ws) with h|h<;>rw[h]
 ·exact .inl rfl
 ·exact .inr rfl
theorem mtI_bd (s:List UInt8) (ws:List V):0≤mh s ws∧(oM s ws=0→mh s ws<ws.length)∧(oM s ws≠0→mh s ws=0):=by
 unfold mh oM;refine⟨by omega,fun h=>?_,fun h=>?_⟩
 ·have:=(Words.mt_told ⟨s.toArray⟩ (RY ws) (Words.mt ⟨s.toArray⟩ (RY ws)).1 (by rw[show(Words.mt ⟨s.toArray⟩ (RY ws))=((Words.mt ⟨s.toArray⟩ (RY ws)).1,(Words.mt ⟨s.toArray⟩ (RY ws)).2) from rfl];congr 1;omega)).2.1
  unfold RY at this⊢;rw[List.length_map] at this;omega
 ·have:=Words.mt_not ⟨s.toArray⟩ (RY ws) (Words.mt ⟨s.toArray⟩ (RY ws)).1 (Words.mt ⟨s.toArray⟩ (RY ws)).2 rfl (by omega)
  omega
theorem wsY_ok:ug EC=true:=by decide
theorem Le (c:UInt8) (l:List UInt8):au (c::l)=(l.length:Int)+1:=by unfold au;simp
theorem Qa (c:UInt8) (l:List UInt8):sat (c::l) 0=(c.toNat:Int):=rfl
theorem Qb (c:UInt8) (l:List UInt8):seq (c::l) []=false:=by unfold seq;rfl
theorem yFrom_ev (s:List UInt8) (hs:s.length≤1000):af yE 155 [.str s] (Xv (pz s)):=by
 refine aj Vo Vp 5 4 ?_
 (rw[YG];(conv=>zeta))
 rw[show[V.str [109,105,110,105,109,117,109],V.str [109,97,120,105,109,117,109],V.str [111,110,108,121]]=EC from rfl,wsY_ok]
 cases s with
 |nil=>
  have h2:ak (au []) 1000=true:=rfl;have h3:seq [] []=true:=rfl;simp only[h2,h3,bV,aJ,bZ,aL,if_true,and_self];unfold pz numeral Xv;simp only[Bool.false_eq_true,if_false];repeat' split
  all_goals first|rfl|(exfalso;simp_all;done)
 |cons c l=>
  have h1:aU 0 (au (c::l))=true:=bE (by rw[Le];omega);have h2:ak (au (c::l)) 1000=true:=bB (by rw[aC];omega);simp only[h1,h2,Qb,Qa,V9];unfold pz numeral uK Xv;simp only[bV,aJ,bZ,aL,ay,if_true,and_self,Bool.false_eq_true,if_false];repeat' split
  all_goals first|rfl|(exfalso;simp_all;done)|(exfalso;omega)
set_option maxHeartbeats 2000000 in
theorem yTo_ev (s:List UInt8) (n:Int) (hs:s.length≤1000):af yE 156 [.str s,.int .i64 n] (Xv (Cg s n)):=by
 refine aj Vo Vp 5 4 ?_
 (rw[yTo_top];(conv=>zeta))
 rw[show[V.str [109,105,110,105,109,117,109],V.str [109,97,120,105,109,117,109],V.str [111,110,108,121]]=EC from rfl,wsY_ok]
 cases s with
 |nil=>
  have h2:ak (au []) 1000=true:=rfl;have h3:seq [] []=true:=rfl;have hw:=Wd [] EC;obtain⟨hb1,hb2,hb3⟩:=mtI_bd [] EC;rw[show EC.length=3 from rfl] at hb2;unfold Cg iR numeral Xv;simp only[h2,h3,bV,aJ,bZ,aL,bf,if_true,and_self,Bool.false_eq_true,if_false,not_true_eq_false];repeat' split
  all_goals first|rfl|(exfalso;omega)|(simp only[Option.some.injEq,V.tup.injEq,List.cons.injEq,V.int.injEq,true_and,and_true];omega)|(exfalso;simp_all;done)|(simp_all;done)
 |cons c l=>
  have h1:aU 0 (au (c::l))=true:=bE (by rw[Le];omega);have h2:ak (au (c::l)) 1000=true:=bB (by rw[aC];omega);have h4:ieq (c.toNat:Int) 45=decide (c.toNat=45):=by unfold ieq;rw[Bool.eq_iff_iff];simp;omega
  have h5:ak 48 (c.toNat:Int)=decide (48≤c.toNat):=by unfold ak;rw[Bool.eq_iff_iff];simp;omega
  have h6:ak (c.toNat:Int) 57=decide (c.toNat≤57):=by unfold ak;rw[Bool.eq_iff_iff];simp;omega
  have hw:=Wd (c::l) EC;obtain⟨hb1,hb2,hb3⟩:=mtI_bd (c::l) EC;rw[show EC.length=3 from rfl] at hb2;simp only[h1,h2,Qb,Qa,V9,h4,h5,h6];unfold Cg iR Xv;rw[show numeral (c::l)=SA c from rfl];clear h4 h5 h6 h1 h2;generalize SA c=q
  cases q<;>simp only[Bool.not_true,Bool.not_false,bV,aJ,bZ,aL,ay,bf,if_true,and_self,Bool.false_eq_true,if_false,not_true_eq_false,not_false_eq_true,Bool.or_false,Bool.or_true,Bool.false_or,Bool.true_or,Bool.and_false,Bool.and_true,Bool.and_self,Bool.or_self]
  all_goals (try unfold uK)
  all_goals (repeat' split)
  all_goals first|rfl|(exfalso;omega)|(simp only[Option.some.injEq,V.tup.injEq,List.cons.injEq,V.int.injEq,true_and,and_true];omega)|(exfalso;simp_all;done)|(simp_all;done)
def minT:List UInt8:=[109,105,110]
def Xw:List UInt8:=[109,97,120]
def Kb:List UInt8:=[111,110,108,121]
def gu (n:Int):List UInt8×Int:=if -32767≤n∧n≤32767 then(if n= -32767 then(minT,0) else(text n,0)) else([],1)
def jE (m n:Int):List UInt8×Int:=if -32767≤n∧n≤32767 then(if n<m then([],14) else if n=m then(Kb,0) else if n=32767 then(Xw,0) else(text n,0)) else([],1)
def resS (p:List UInt8×Int):V:=.tup [.str p.1,.int .i64 p.2]
theorem Oa (n:Int):af yE 37 [.int .i64 n] (resS (gu n)):=by
 refine aj Vo Vp 5 4 ?_
 (rw[JJ];(conv=>zeta))
 unfold gu resS minT;simp only[bV,aJ,bZ,aL,ay,bf,if_true,and_self,Bool.false_eq_true,if_false,not_true_eq_false,not_false_eq_true];repeat' split
 all_goals first|rfl|(exfalso;omega)|(simp only[Option.some.injEq,V.tup.injEq,List.cons.injEq,V.int.injEq,true_and,and_true];omega)|(exfalso;simp_all;done)|(simp_all;done)
theorem Us (m n:Int):af yE 36 [.int .i64 m,.int .i64 n] (resS (jE m n)):=by
 refine aj Vo Vp 5 4 ?_
 (rw[Rs];(conv=>zeta))
 unfold jE resS Xw Kb;simp only[bV,aJ,bZ,aL,ay,bf,if_true,and_self,Bool.false_eq_true,if_false,not_true_eq_false,not_false_eq_true];repeat' split
 all_goals first|rfl|(exfalso;omega)|(simp only[Option.some.injEq,V.tup.injEq,List.cons.injEq,V.int.injEq,true_and,and_true];omega)|(exfalso;simp_all;done)|(simp_all;done)
def yFI (s:List UInt8):Int:=(pz s).1
def yFW (s:List UInt8):Int:=(pz s).2
def yTI (s:List UInt8) (n:Int):Int:=(Cg s n).1
def yTW (s:List UInt8) (n:Int):Int:=(Cg s n).2
def yfT (n:Int):List UInt8:=(gu n).1
def yfW (n:Int):Int:=(gu n).2
def ytT (m n:Int):List UInt8:=(jE m n).1
def ytW (m n:Int):Int:=(jE m n).2
theorem Qc (n:Int):numeral (text n)=true:=by
 have h:=rJ (n.natAbs+1) n.natAbs (by omega);unfold text;by_cases h0:n<0
 ·rw[if_pos h0];rfl
 ·rw[if_neg h0,List.nil_append]
  cases e:fP n.natAbs with
  |nil=>exact absurd e h.2
  |cons c l=>
   have:=List.all_eq_true.1 h.1 c (by rw[e];exact .head _);unfold isDigit at this;show SA c=true;unfold SA;rw[this,Bool.or_true]
theorem C5 {n:Int} (h: -32767≤n∧n≤32767):Fits n:=by unfold Fits;omega
theorem Lf (n:Int) (h: -32767≤n∧n≤32767):uK (text n)=(n,0):=by
 have hr:=K5 n (C5 h);have h1:ig (text n)=n:=by unfold ig;rw[hr]
 have h2:nrW (text n)=0:=by unfold nrW;rw[hr]
 unfold uK;rw[h1,h2,if_pos rfl,if_pos h]
theorem Wh:oM Kb EC=0∧mh Kb EC=2:=by decide+kernel
theorem max_mt:oM Xw EC=0∧mh Xw EC=1:=by decide+kernel
theorem min_mt:oM minT EC=0∧mh minT EC=0:=by decide+kernel
theorem V7 (m:Int):(yfT m).length≤25:=by
 unfold yfT gu;split
 ·rename_i h
  split
  ·decide
  ·have:=(vG m (C5 h)).1
   simp only;omega
 ·simp
theorem V8 (m n:Int):(ytT m n).length≤25:=by
 unfold ytT jE;split
 ·rename_i h
  split
  ·simp
  ·split
   ·decide
   ·split
    ·decide
    ·have:=(vG n (C5 h)).1
     simp only;omega
 ·simp
theorem yf_back (m:Int) (h:yfW m=0):yFI (yfT m)=m∧yFW (yfT m)=0:=by
 unfold yfW gu at h;unfold yFI yFW yfT gu;split at h
 ·rename_i hr
  rw[if_pos hr];by_cases h1:m= -32767
  ·rw[if_pos h1]
   unfold pz;rw[if_neg (by decide),if_pos min_mt];exact⟨h1.symm,rfl⟩
  ·rw[if_neg h1]
   unfold pz;rw[if_pos (Qc m),Lf m hr];exact⟨rfl,rfl⟩
 ·cases h
theorem yt_back (m n:Int) (h:ytW m n=0):yTI (ytT m n) m=n∧yTW (ytT m n) m=0:=by
 unfold ytW jE at h;unfold yTI yTW ytT jE;split at h
 ·rename_i hr
  rw[if_pos hr];split at h
  ·cases h
  ·rename_i hlt
   rw[if_neg hlt];by_cases h1:n=m
   ·rw[if_pos h1]
    have e:iR Kb m=(m,0):=by
     unfold iR;rw[if_neg (by decide),if_pos Wh.1,Wh.2];rfl
    unfold Cg;rw[e,if_neg (by simp)];exact⟨h1.symm,rfl⟩
   ·rw[if_neg h1]
    by_cases h2:n=32767
    ·rw[if_pos h2]
     have e:iR Xw m=(32767,0):=by
      unfold iR;rw[if_neg (by decide),if_pos max_mt.1,max_mt.2];rfl
     unfold Cg;rw[e,if_neg (by simp only;omega)];exact⟨h2.symm,rfl⟩
    ·rw[if_neg h2]
     have e:iR (text n) m=(n,0):=by
      unfold iR;rw[if_pos (Qc n),Lf n hr]
     unfold Cg;rw[e,if_neg (by simp only;omega)];exact⟨rfl,rfl⟩
 ·cases h
theorem yto_err (s:List UInt8) (m:Int):(yTW s m≠0→yTI s m=0)∧(yTW s m=0→m≤yTI s m):=by
 unfold yTW yTI Cg;have hl:(iR s m).2≠0→(iR s m).1=0:=by
  unfold iR uK
  (repeat' split)<;>simp
 split
 ·rename_i h
  exact⟨fun _=>rfl,fun h=>by cases h⟩
 ·rename_i h
  exact⟨hl,fun h2=>by omega⟩
end Nt.Ev.YtplklcejbmfgdaaGreatDoor
