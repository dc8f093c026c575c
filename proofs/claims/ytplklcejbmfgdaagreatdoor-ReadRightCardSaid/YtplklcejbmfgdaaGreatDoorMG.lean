/-
  Year: equations of functions, as the evaluator prints them. Years: what the program's functions and the document's answer. YearLaw: equations of functions, as the evaluator prints them. Years: the statements YearTells and YearBack.
-/
import Derived.Test.YtplklcejbmfgdaaGreatDoorME
import Derived.Test.YtplklcejbmfgdaaGreatDoorMC
set_option linter.unusedVariables false
set_option linter.unusedSimpArgs false
set_option linter.unusedSectionVars false
namespace Nt.Ev.YtplklcejbmfgdaaGreatDoor
set_option maxRecDepth 100000
open Go Nt.Num Go.Proofs.YtplklcejbmfgdaaGreatDoor
noncomputable def yE:Env:=⟨Go.Proofs.Tryz.prog,fun _=>none⟩
noncomputable def XW:aF:=fun a=>match a with|[.str s]=>some (ai (aj s) 1000,.tup [.int .i64 (gW s),.int .i64 (nrW s)])|_=>none
noncomputable def XX:aF:=fun a=>match a with|[.int .i64 m]=>some (ak (ai (-9223372036854775808) m) (ai m 9223372036854775807),.str (text m))|_=>none
noncomputable def XY:aF:=fun a=>match a with|[.str s,.sl e [.str] o ws]=>some (ak (ai (aj s) 1000) (rX ws),.tup [.int .i64 (nY s ws),.int .i64 (qo s ws)])|_=>none
noncomputable def idxS:aF:=fun a=>match a with|[.str s,.int .u8 c]=>some (true,.int .i64 (sZ s c))|_=>none
noncomputable def yS:List (Nat×aF):=(173,XW)::(63,XX)::(89,XY)::(43,idxS)::[]
theorem UZ (F:Nat) (s:List UInt8) (K:V→Option V):
 cr yE (bV yE yS F 4) F 155 [V.str s] K=
 let B:=[V.str [109,105,110,105,109,117,109],V.str [109,97,120,105,109,117,109],V.str [111,110,108,121]];let D:=V.int .i64 0;let H:=ai (aj s) 1000;let C:=sel (aG (ieq (nrW s) 0)) (K (V.tup [D,V.int .i64 (nrW s)])) (K (V.tup [V.int .i64 (gW s),D]));let E:=K (V.tup [D,V.int .i64 1]);let G:=K (V.tup [D,V.int .i64 3]);let A:=sel (ak H (rX B)) (sel (aG (ieq (qo s B) 0)) G (sel (aG (ieq (nY s B) 0)) G (K (V.tup [V.int .i64 (-32767),D])))) (none);sel (seq s []) A (sel (ak (ai 0 0) (aT 0 (aj s))) (sel (aT (sZ [45,48,49,50,51,52,53,54,55,56,57] (sat s 0)) 0) A (sel H (sel (ieq (nrW s) 0) (sel (ai (-32767) (gW s)) (sel (aG (ai (gW s) 32767)) E C) E) C) none)) none):=by kernel_rfl
theorem yTo_top (F:Nat) (s:List UInt8) (n:Int) (K:V→Option V):
 cr yE (bV yE yS F 4) F 156 [V.str s,V.int .i64 n] K=
 let A:=[V.str [109,105,110,105,109,117,109],V.str [109,97,120,105,109,117,109],V.str [111,110,108,121]];let G:=V.int .i64 0;let P:=ieq (nrW s) 0;let Q:=ai (aj s) 1000;let E:=K (V.tup [G,V.int .i64 14]);let H:=V.int .i64 (qo s A);let I:=ieq (qo s A) 0;let J:=K (V.tup [G,V.int .i64 (nrW s)]);let M:=K (V.tup [G,V.int .i64 1]);let O:=K (V.tup [G,V.int .i64 3]);let C:=sel (aG P) (sel P (sel (aT 0 n) E J) J) (sel (aT (gW s) n) E (K (V.tup [V.int .i64 (gW s),G])));let L:=K (V.tup [V.int .i64 32767,H]);let N:=K (V.tup [V.int .i64 n,H]);let B:=sel I (sel (ieq (nY s A) 2) (sel I (sel (aT n n) E N) N) O) O;let D:=sel (ak Q (rX A)) (sel I (sel (ieq (nY s A) 1) (sel I (sel (aT 32767 n) E L) L) B) B) (none);sel (seq s []) D (sel (ak (ai 0 0) (aT 0 (aj s))) (sel (aT (sZ [45,48,49,50,51,52,53,54,55,56,57] (sat s 0)) 0) D (sel Q (sel P (sel (ai (-32767) (gW s)) (sel (aG (ai (gW s) 32767)) M C) M) C) none)) none):=by kernel_rfl
theorem Gw (F:Nat) (n:Int) (K:V→Option V):
 cr yE (bV yE yS F 4) F 37 [V.int .i64 n] K=
 let A:=K (V.tup [V.str [],V.int .i64 1]);sel (ai (-32767) n) (sel (aG (ai n 32767)) A (sel (ieq n (-32767)) (K (V.tup [V.str [109,105,110],V.int .i64 0])) (sel (ak (ai (-9223372036854775808) n) (ai n 9223372036854775807)) (K (V.tup [V.str (text n),V.int .i64 0])) none))) A:=by kernel_rfl
theorem Oc (F:Nat) (m n:Int) (K:V→Option V):
 cr yE (bV yE yS F 4) F 36 [V.int .i64 m,V.int .i64 n] K=
 let A:=K (V.tup [V.str [],V.int .i64 1]);let B:=V.int .i64 0;sel (ai (-32767) n) (sel (aG (ai n 32767)) A (sel (aT n m) (K (V.tup [V.str [],V.int .i64 14])) (sel (ieq n m) (K (V.tup [V.str [111,110,108,121],B])) (sel (ieq n 32767) (K (V.tup [V.str [109,97,120],B])) (sel (ak (ai (-9223372036854775808) n) (ai n 9223372036854775807)) (K (V.tup [V.str (text n),B])) none))))) A:=by kernel_rfl
open Nt
theorem Rx:sO yE:=⟨by kernel_rfl,by kernel_rfl⟩
theorem toY {f:Nat} {args:List V} {r:V} (h:af nE f args r):af yE f args r:=af.env (E:=nE) rfl (fun n v h=>by cases h) h
theorem XZ {s:List UInt8} (h:ai (aj s) 1000=true):s.length≤1000:=by rw[aA,aB] at h;omega
theorem U0 (s:List UInt8) (hc:ai (aj s) 1000=true):af yE 173 [.str s] (.tup [.int .i64 (gW s),.int .i64 (nrW s)]):=toY (J7 s (XZ hc))
theorem fits_of {m:Int} (h:ak (ai (-9223372036854775808) m) (ai m 9223372036854775807)=true):Fits m:=by rw[aH,aA,aA] at h;exact h
theorem U1 (m:Int) (hc:ak (ai (-9223372036854775808) m) (ai m 9223372036854775807)=true):af yE 63 [.int .i64 m] (.str (text m)):=toY (y9 m (fits_of hc))
theorem U2 (s:List UInt8) (e:Nat) (o:Option Nat) (ws:List V) (hc:ak (ai (aj s) 1000) (rX ws)=true):af yE 89 [.str s,.sl e [.str] o ws] (.tup [.int .i64 (nY s ws),.int .i64 (qo s ws)]):=by
 obtain⟨h1,h2⟩:=aY hc;exact toY (EQ s e o ws (XZ h1) h2)
theorem idxS_ok (s:List UInt8) (c:Int) (hc:true=true):af yE 43 [.str s,.int .u8 c] (.int .i64 (sZ s c)):=toY (Xe s c)
theorem Ry:bq yE yS:=by
 unfold yS;refine bq.cons (fun args r h=>?_) (bq.cons (fun args r h=>?_) (bq.cons (fun args r h=>?_) (bq.cons (fun args r h=>?_) bq.nil)));all_goals (revert h;intro h;first|unfold XW at h|unfold XX at h|unfold XY at h|unfold idxS at h)
 all_goals (split at h;rotate_left; · cases h)
 all_goals (simp only[Option.some.injEq,Prod.mk.injEq] at h;obtain⟨hc,rfl⟩:=h)
 ·exact U0 _ hc
 ·exact U1 _ hc
 ·exact U2 _ _ _ _ hc
 ·exact idxS_ok _ _ rfl
def WC (c:UInt8):Bool:=decide (c.toNat=45)||(decide (48≤c.toNat)&&decide (c.toNat≤57))
def numeral:List UInt8→Bool
 |[]=>false
 |c::_=>WC c
theorem Sn (c:UInt8):aT (sZ [45,48,49,50,51,52,53,54,55,56,57] ((c.toNat:Nat):Int)) 0= !WC c:=by
 have h: ∀n:Fin 256,aT (sZ [45,48,49,50,51,52,53,54,55,56,57] ((n.val:Nat):Int)) 0= !WC (UInt8.ofNat n):=by decide+kernel
 have:=h ⟨c.toNat,c.toNat_lt⟩;simpa using this
def Ja:List V:=[V.str [109,105,110,105,109,117,109],V.str [109,97,120,105,109,117,109],V.str [111,110,108,121]]
def yC (s:List UInt8):Int×Int:=if nrW s=0 then(if -32767≤gW s∧gW s≤32767 then(gW s,0) else(0,1)) else(0,nrW s)
def xq (s:List UInt8):Int×Int:=if numeral s=true then yC s else if qo s Ja=0∧nY s Ja=0 then(-32767,0) else(0,3)
def lU (s:List UInt8) (n:Int):Int×Int:=if numeral s=true then yC s else if qo s Ja=0 then(if nY s Ja=1 then(32767,0) else if nY s Ja=2 then(n,0) else(0,3)) else(0,3)
def Gf (s:List UInt8) (n:Int):Int×Int:=if(lU s n).2=0∧(lU s n).1<n then(0,14) else lU s n
def TL (p:Int×Int):V:=.tup [.int .i64 p.1,.int .i64 p.2]
theorem Sq (s:List UInt8) (ws:List V):qo s ws=0∨qo s ws=3:=by
 unfold qo;rcases Words.mt_err ⟨s.toArray⟩ (OA ws) with h|h<;>rw[h]
 ·exact .inl rfl
 ·exact .inr rfl
theorem X0 (s:List UInt8) (ws:List V):0≤nY s ws∧(qo s ws=0→nY s ws<ws.length)∧(qo s ws≠0→nY s ws=0):=by
 unfold nY qo;refine⟨by omega,fun h=>?_,fun h=>?_⟩
 ·have:=(Words.mt_told ⟨s.toArray⟩ (OA ws) (Words.mt ⟨s.toArray⟩ (OA ws)).1 (by rw[show(Words.mt ⟨s.toArray⟩ (OA ws))=((Words.mt ⟨s.toArray⟩ (OA ws)).1,(Words.mt ⟨s.toArray⟩ (OA ws)).2) from rfl];congr 1;omega)).2.1
  unfold OA at this⊢;rw[List.length_map] at this;omega
 ·have:=Words.mt_not ⟨s.toArray⟩ (OA ws) (Words.mt ⟨s.toArray⟩ (OA ws)).1 (Words.mt ⟨s.toArray⟩ (OA ws)).2 rfl (by omega)
  omega
theorem X3:rX Ja=true:=by decide
theorem IK (c:UInt8) (l:List UInt8):aj (c::l)=(l.length:Int)+1:=by unfold aj;simp
theorem MP (c:UInt8) (l:List UInt8):sat (c::l) 0=(c.toNat:Int):=rfl
theorem MQ (c:UInt8) (l:List UInt8):seq (c::l) []=false:=by unfold seq;rfl
theorem Zg (s:List UInt8) (hs:s.length≤1000):af yE 155 [.str s] (TL (xq s)):=by
 refine ah Rx Ry 5 4 ?_
 (rw[UZ];(conv=>zeta))
 rw[show[V.str [109,105,110,105,109,117,109],V.str [109,97,120,105,109,117,109],V.str [111,110,108,121]]=Ja from rfl,X3]
 cases s with
 |nil=>
  have h2:ai (aj []) 1000=true:=rfl;have h3:seq [] []=true:=rfl;simp only[h2,h3,bJ,aH,bP,aK,if_true,and_self];unfold xq numeral TL;simp only[Bool.false_eq_true,if_false];repeat' split
  all_goals first|rfl|(exfalso;simp_all;done)
 |cons c l=>
  have h1:aT 0 (aj (c::l))=true:=bD (by rw[IK];omega);have h2:ai (aj (c::l)) 1000=true:=bF (by rw[aB];omega);simp only[h1,h2,MQ,MP,Sn];unfold xq numeral yC TL;simp only[bJ,aH,bP,aK,aA,if_true,and_self,Bool.false_eq_true,if_false];repeat' split
  all_goals first|rfl|(exfalso;simp_all;done)|(exfalso;omega)
set_option maxHeartbeats 2000000 in
theorem yTo_ev (s:List UInt8) (n:Int) (hs:s.length≤1000):af yE 156 [.str s,.int .i64 n] (TL (Gf s n)):=by
 refine ah Rx Ry 5 4 ?_
 (rw[yTo_top];(conv=>zeta))
 rw[show[V.str [109,105,110,105,109,117,109],V.str [109,97,120,105,109,117,109],V.str [111,110,108,121]]=Ja from rfl,X3]
 cases s with
 |nil=>
  have h2:ai (aj []) 1000=true:=rfl;have h3:seq [] []=true:=rfl;have hw:=Sq [] Ja;obtain⟨hb1,hb2,hb3⟩:=X0 [] Ja;rw[show Ja.length=3 from rfl] at hb2;unfold Gf lU numeral TL;simp only[h2,h3,bJ,aH,bP,aK,bf,if_true,and_self,Bool.false_eq_true,if_false,not_true_eq_false];repeat' split
  all_goals first|rfl|(exfalso;omega)|(simp only[Option.some.injEq,V.tup.injEq,List.cons.injEq,V.int.injEq,true_and,and_true];omega)|(exfalso;simp_all;done)|(simp_all;done)
 |cons c l=>
  have h1:aT 0 (aj (c::l))=true:=bD (by rw[IK];omega);have h2:ai (aj (c::l)) 1000=true:=bF (by rw[aB];omega);have h4:ieq (c.toNat:Int) 45=decide (c.toNat=45):=by unfold ieq;rw[Bool.eq_iff_iff];simp;omega
  have h5:ai 48 (c.toNat:Int)=decide (48≤c.toNat):=by unfold ai;rw[Bool.eq_iff_iff];simp;omega
  have h6:ai (c.toNat:Int) 57=decide (c.toNat≤57):=by unfold ai;rw[Bool.eq_iff_iff];simp;omega
  have hw:=Sq (c::l) Ja;obtain⟨hb1,hb2,hb3⟩:=X0 (c::l) Ja;rw[show Ja.length=3 from rfl] at hb2;simp only[h1,h2,MQ,MP,Sn,h4,h5,h6];unfold Gf lU TL;rw[show numeral (c::l)=WC c from rfl];clear h4 h5 h6 h1 h2;generalize WC c=q
  cases q<;>simp only[Bool.not_true,Bool.not_false,bJ,aH,bP,aK,aA,bf,if_true,and_self,Bool.false_eq_true,if_false,not_true_eq_false,not_false_eq_true,Bool.or_false,Bool.or_true,Bool.false_or,Bool.true_or,Bool.and_false,Bool.and_true,Bool.and_self,Bool.or_self]
  all_goals (try unfold yC)
  all_goals (repeat' split)
  all_goals first|rfl|(exfalso;omega)|(simp only[Option.some.injEq,V.tup.injEq,List.cons.injEq,V.int.injEq,true_and,and_true];omega)|(exfalso;simp_all;done)|(simp_all;done)
def minT:List UInt8:=[109,105,110]
def maxT:List UInt8:=[109,97,120]
def onlyT:List UInt8:=[111,110,108,121]
def o6 (n:Int):List UInt8×Int:=if -32767≤n∧n≤32767 then(if n= -32767 then(minT,0) else(text n,0)) else([],1)
def uq (m n:Int):List UInt8×Int:=if -32767≤n∧n≤32767 then(if n<m then([],14) else if n=m then(onlyT,0) else if n=32767 then(maxT,0) else(text n,0)) else([],1)
def resS (p:List UInt8×Int):V:=.tup [.str p.1,.int .i64 p.2]
theorem KV (n:Int):af yE 37 [.int .i64 n] (resS (o6 n)):=by
 refine ah Rx Ry 5 4 ?_
 (rw[Gw];(conv=>zeta))
 unfold o6 resS minT;simp only[bJ,aH,bP,aK,aA,bf,if_true,and_self,Bool.false_eq_true,if_false,not_true_eq_false,not_false_eq_true];repeat' split
 all_goals first|rfl|(exfalso;omega)|(simp only[Option.some.injEq,V.tup.injEq,List.cons.injEq,V.int.injEq,true_and,and_true];omega)|(exfalso;simp_all;done)|(simp_all;done)
theorem QD (m n:Int):af yE 36 [.int .i64 m,.int .i64 n] (resS (uq m n)):=by
 refine ah Rx Ry 5 4 ?_
 (rw[Oc];(conv=>zeta))
 unfold uq resS maxT onlyT;simp only[bJ,aH,bP,aK,aA,bf,if_true,and_self,Bool.false_eq_true,if_false,not_true_eq_false,not_false_eq_true];repeat' split
 all_goals first|rfl|(exfalso;omega)|(simp only[Option.some.injEq,V.tup.injEq,List.cons.injEq,V.int.injEq,true_and,and_true];omega)|(exfalso;simp_all;done)|(simp_all;done)
def yTI (s:List UInt8) (n:Int):Int:=(Gf s n).1
def yTW (s:List UInt8) (n:Int):Int:=(Gf s n).2
theorem yto_err (s:List UInt8) (m:Int):(yTW s m≠0→yTI s m=0)∧(yTW s m=0→m≤yTI s m):=by
 unfold yTW yTI Gf;have hl:(lU s m).2≠0→(lU s m).1=0:=by
  unfold lU yC
  (repeat' split)<;>simp
 split
 ·rename_i h
  exact⟨fun _=>rfl,fun h=>by cases h⟩
 ·rename_i h
  exact⟨hl,fun h2=>by omega⟩
end Nt.Ev.YtplklcejbmfgdaaGreatDoor
