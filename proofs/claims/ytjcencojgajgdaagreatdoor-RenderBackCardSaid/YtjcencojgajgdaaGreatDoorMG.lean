/-
  Year: equations of functions, as the evaluator prints them. Years: what the program's functions and the document's answer.
-/
import Derived.Test.YtjcencojgajgdaaGreatDoorME
set_option linter.all false
set_option maxRecDepth 100000
namespace Nt.Ev.YtjcencojgajgdaaGreatDoor
open Go Nt.Num Go.Proofs.YtjcencojgajgdaaGreatDoor
noncomputable def yE:Env:=⟨Go.Proofs.Tryz.prog,fun _=>none⟩
noncomputable def nReadS:aD:=fun a=>match a with|[.str s]=>some (ax (aB s) 1000,.tup [.int .i64 (iF s),.int .i64 (nrW s)])|_=>none
noncomputable def nTextS:aD:=fun a=>match a with|[.int .i64 m]=>some (ak (ax (-9223372036854775808) m) (ax m 9223372036854775807),.str (text m))|_=>none
noncomputable def matchS:aD:=fun a=>match a with|[.str s,.sl e [.str] o ws]=>some (ak (ax (aB s) 1000) (uU ws),.tup [.int .i64 (mo s ws),.int .i64 (oU s ws)])|_=>none
noncomputable def idxS:aD:=fun a=>match a with|[.str s,.int .u8 c]=>some (true,.int .i64 (vv s c))|_=>none
noncomputable def yS:List (Nat×aD):=(170,nReadS)::(52,nTextS)::(70,matchS)::(63,idxS)::[]
theorem aed (F s) (K:V→Option V):
 bE yE (bC yE yS F 4) F 148 [V.str s] K=
 let B:=[V.str [109,105,110,105,109,117,109],V.str [109,97,120,105,109,117,109],V.str [111,110,108,121]];let D:=V.int .i64 0;let H:=ax (aB s) 1000;let C:=sel (aL (ieq (nrW s) 0)) (K (V.tup [D,V.int .i64 (nrW s)])) (K (V.tup [V.int .i64 (iF s),D]));let E:=K (V.tup [D,V.int .i64 1]);let G:=K (V.tup [D,V.int .i64 3]);let A:=sel (ak H (uU B)) (sel (aL (ieq (oU s B) 0)) G (sel (aL (ieq (mo s B) 0)) G (K (V.tup [V.int .i64 (-32767),D])))) (none);sel (seq s []) A (sel (ak (ax 0 0) (aR 0 (aB s))) (sel (aR (vv [45,48,49,50,51,52,53,54,55,56,57] (sat s 0)) 0) A (sel H (sel (ieq (nrW s) 0) (sel (ax (-32767) (iF s)) (sel (aL (ax (iF s) 32767)) E C) E) C) none)) none):=by kernel_rfl
theorem yTo_top (F s n) (K:V→Option V):
 bE yE (bC yE yS F 4) F 149 [V.str s,V.int .i64 n] K=
 let A:=[V.str [109,105,110,105,109,117,109],V.str [109,97,120,105,109,117,109],V.str [111,110,108,121]];let G:=V.int .i64 0;let P:=ieq (nrW s) 0;let Q:=ax (aB s) 1000;let E:=K (V.tup [G,V.int .i64 14]);let H:=V.int .i64 (oU s A);let I:=ieq (oU s A) 0;let J:=K (V.tup [G,V.int .i64 (nrW s)]);let M:=K (V.tup [G,V.int .i64 1]);let O:=K (V.tup [G,V.int .i64 3]);let C:=sel (aL P) (sel P (sel (aR 0 n) E J) J) (sel (aR (iF s) n) E (K (V.tup [V.int .i64 (iF s),G])));let L:=K (V.tup [V.int .i64 32767,H]);let N:=K (V.tup [V.int .i64 n,H]);let B:=sel I (sel (ieq (mo s A) 2) (sel I (sel (aR n n) E N) N) O) O;let D:=sel (ak Q (uU A)) (sel I (sel (ieq (mo s A) 1) (sel I (sel (aR 32767 n) E L) L) B) B) (none);sel (seq s []) D (sel (ak (ax 0 0) (aR 0 (aB s))) (sel (aR (vv [45,48,49,50,51,52,53,54,55,56,57] (sat s 0)) 0) D (sel Q (sel P (sel (ax (-32767) (iF s)) (sel (aL (ax (iF s) 32767)) M C) M) C) none)) none):=by kernel_rfl
theorem KT (F n) (K:V→Option V):
 bE yE (bC yE yS F 4) F 31 [V.int .i64 n] K=
 let A:=K (V.tup [V.str [],V.int .i64 1]);sel (ax (-32767) n) (sel (aL (ax n 32767)) A (sel (ieq n (-32767)) (K (V.tup [V.str [109,105,110],V.int .i64 0])) (sel (ak (ax (-9223372036854775808) n) (ax n 9223372036854775807)) (K (V.tup [V.str (text n),V.int .i64 0])) none))) A:=by kernel_rfl
theorem TM (F m n) (K:V→Option V):
 bE yE (bC yE yS F 4) F 32 [V.int .i64 m,V.int .i64 n] K=
 let A:=K (V.tup [V.str [],V.int .i64 1]);let B:=V.int .i64 0;sel (ax (-32767) n) (sel (aL (ax n 32767)) A (sel (aR n m) (K (V.tup [V.str [],V.int .i64 14])) (sel (ieq n m) (K (V.tup [V.str [111,110,108,121],B])) (sel (ieq n 32767) (K (V.tup [V.str [109,97,120],B])) (sel (ak (ax (-9223372036854775808) n) (ax n 9223372036854775807)) (K (V.tup [V.str (text n),B])) none))))) A:=by kernel_rfl
open Nt
theorem XB:uQ yE:=⟨by kernel_rfl,by kernel_rfl⟩
theorem toY {f:Nat} {args:ah} {r:V} (h:aj nE f args r):aj yE f args r:=aj.env (E:=nE) rfl (fun n v h=>by cases h) h
theorem len_of {s:af} (h:ax (aB s) 1000=true):s.length≤1000:=by rw[aA,aJ] at h;omega
theorem aee (s:af) (a:ax (aB s) 1000=true):aj yE 170 [.str s] (.tup [.int .i64 (iF s),.int .i64 (nrW s)]):=toY (OO s (len_of a))
theorem fits_of {m:Int} (h:ak (ax (-9223372036854775808) m) (ax m 9223372036854775807)=true):Fits m:=by rw[aM,aA,aA] at h;exact h
theorem aef (m:Int) (a:ak (ax (-9223372036854775808) m) (ax m 9223372036854775807)=true):aj yE 52 [.int .i64 m] (.str (text m)):=toY (BA m (fits_of a))
theorem aeg (s:af) (e:Nat) (o:Option Nat) (a:ah) (c:ak (ax (aB s) 1000) (uU a)=true):aj yE 70 [.str s,.sl e [.str] o a] (.tup [.int .i64 (mo s a),.int .i64 (oU s a)]):=by obtain⟨b,d⟩:=aN c;exact toY (I6 s e o a (len_of b) d)
theorem idxS_ok (s:af) (c:Int) (a:true=true):aj yE 63 [.str s,.int .u8 c] (.int .i64 (vv s c)):=toY (idx_c s c)
theorem XD:aZ yE yS:=by
 unfold yS;refine aZ.cons (fun args r h=>?_) (aZ.cons (fun args r h=>?_) (aZ.cons (fun args r h=>?_) (aZ.cons (fun args r h=>?_) aZ.nil)));all_goals (revert h;intro h;first|unfold nReadS at h|unfold nTextS at h|unfold matchS at h|unfold idxS at h)
 all_goals (split at h;rotate_left; · cases h)
 all_goals (simp only[aT,bP] at h;obtain⟨a,rfl⟩:=h)
 ·exact aee _ a
 ·exact aef _ a
 ·exact aeg _ _ _ _ a
 exact idxS_ok _ _ rfl
def UK (c:UInt8):Bool:=decide (c.toNat=45)||(decide (48≤c.toNat)&&decide (c.toNat≤57))
def numeral:af→Bool
 |[]=>false
 |c::_=>UK c
theorem Yp (c:UInt8):aR (vv [45,48,49,50,51,52,53,54,55,56,57] ((c.toNat:Nat):Int)) 0= !UK c:=by
 have h: ∀n:Fin 256,aR (vv [45,48,49,50,51,52,53,54,55,56,57] ((n.val:Nat):Int)) 0= !UK (UInt8.ofNat n):=by decide+kernel
 have:=h ⟨c.toNat,c.toNat_lt⟩;simpa using this
def FE:ah:=[V.str [109,105,110,105,109,117,109],V.str [109,97,120,105,109,117,109],V.str [111,110,108,121]]
def vB (s:af):Int×Int:=if nrW s=0 then(if -32767≤iF s∧iF s≤32767 then(iF s,0) else(0,1)) else(0,nrW s)
def pJ (s:af):Int×Int:=if numeral s=true then vB s else if oU s FE=0∧mo s FE=0 then(-32767,0) else(0,3)
def jd (s:af) (n:Int):Int×Int:=if numeral s=true then vB s else if oU s FE=0 then(if mo s FE=1 then(32767,0) else if mo s FE=2 then(n,0) else(0,3)) else(0,3)
def CV (s:af) (n:Int):Int×Int:=if(jd s n).2=0∧(jd s n).1<n then(0,14) else jd s n
def ZR (p:Int×Int):V:=.tup [.int .i64 p.1,.int .i64 p.2]
theorem Yq (s:af) (a:ah):oU s a=0∨oU s a=3:=by
 unfold oU;rcases Words.mt_err ⟨s.toArray⟩ (Uo a) with h|h<;>rw[h]
 ·exact .inl rfl
 exact .inr rfl
theorem mtI_bd (s:af) (a:ah):0≤mo s a∧(oU s a=0→mo s a<a.length)∧(oU s a≠0→mo s a=0):=by
 unfold mo oU;refine⟨by omega,fun h=>?_,fun h=>?_⟩
 ·have:=(Words.mt_told ⟨s.toArray⟩ (Uo a) (Words.mt ⟨s.toArray⟩ (Uo a)).1 (by rw[show(Words.mt ⟨s.toArray⟩ (Uo a))=((Words.mt ⟨s.toArray⟩ (Uo a)).1,(Words.mt ⟨s.toArray⟩ (Uo a)).2) from rfl];congr 1;omega)).2.1
  unfold Uo at this⊢;rw[kS] at this;omega
 have:=Words.mt_not ⟨s.toArray⟩ (Uo a) (Words.mt ⟨s.toArray⟩ (Uo a)).1 (Words.mt ⟨s.toArray⟩ (Uo a)).2 rfl (by omega);omega
theorem wsY_ok:uU FE=true:=by decide
theorem MJ (c:UInt8) (l:af):aB (c::l)=(l.length:Int)+1:=by unfold aB;simp
theorem RS (c:UInt8) (l:af):sat (c::l) 0=(c.toNat:Int):=rfl
theorem RU (c:UInt8) (l:af):seq (c::l) []=false:=by unfold seq;rfl
theorem yFrom_ev (s:af) (e:s.length≤1000):aj yE 148 [.str s] (ZR (pJ s)):=by
 refine au XB XD 5 4 ?_
 (rw[aed];(conv=>zeta))
 rw[show[V.str [109,105,110,105,109,117,109],V.str [109,97,120,105,109,117,109],V.str [111,110,108,121]]=FE from rfl,wsY_ok]
 cases s with
 |nil=>
  have a:ax (aB []) 1000=true:=rfl;have d:seq [] []=true:=rfl;simp only[a,d,bM,aM,bY,aO,if_true,ac7];unfold pJ numeral ZR;simp only[GU,CK];repeat' split
  all_goals first|rfl|(exfalso;simp_all;done)
 |cons c l=>
  have b:aR 0 (aB (c::l))=true:=bu (by rw[MJ];omega);have a:ax (aB (c::l)) 1000=true:=bn (by rw[aJ];omega);simp only[b,a,RU,RS,Yp];unfold pJ numeral vB ZR;simp only[bM,aM,bY,aO,aA,if_true,ac7,GU,CK];repeat' split
  all_goals first|rfl|(exfalso;simp_all;done)|(exfalso;omega)
set_option maxHeartbeats 2000000 in
theorem yTo_ev (s:af) (n:Int) (hs:s.length≤1000):aj yE 149 [.str s,.int .i64 n] (ZR (CV s n)):=by
 refine au XB XD 5 4 ?_
 (rw[yTo_top];(conv=>zeta))
 rw[show[V.str [109,105,110,105,109,117,109],V.str [109,97,120,105,109,117,109],V.str [111,110,108,121]]=FE from rfl,wsY_ok]
 cases s with
 |nil=>
  have h2:ax (aB []) 1000=true:=rfl;have h3:seq [] []=true:=rfl;have hw:=Yq [] FE;obtain⟨hb1,hb2,hb3⟩:=mtI_bd [] FE;rw[show FE.length=3 from rfl] at hb2;unfold CV jd numeral ZR;simp only[h2,h3,bM,aM,bY,aO,bq,if_true,ac7,GU,CK,abx];repeat' split
  all_goals first|rfl|(exfalso;omega)|(simp only[aT,V.tup.injEq,Qg,V.int.injEq,jC,Uj];omega)|(exfalso;simp_all;done)|(simp_all;done)
 |cons c l=>
  have h1:aR 0 (aB (c::l))=true:=bu (by rw[MJ];omega);have h2:ax (aB (c::l)) 1000=true:=bn (by rw[aJ];omega);have h4:ieq (c.toNat:Int) 45=decide (c.toNat=45):=by unfold ieq;rw[uF];simp;omega
  have h5:ax 48 (c.toNat:Int)=decide (48≤c.toNat):=by unfold ax;rw[uF];simp;omega
  have h6:ax (c.toNat:Int) 57=decide (c.toNat≤57):=by unfold ax;rw[uF];simp;omega
  have hw:=Yq (c::l) FE;obtain⟨hb1,hb2,hb3⟩:=mtI_bd (c::l) FE;rw[show FE.length=3 from rfl] at hb2;simp only[h1,h2,RU,RS,Yp,h4,h5,h6];unfold CV jd ZR;rw[show numeral (c::l)=UK c from rfl];clear h4 h5 h6 h1 h2;generalize UK c=q
  cases q<;>simp only[acL,acZ,bM,aM,bY,aO,aA,bq,if_true,ac7,GU,CK,abx,abY,adi,Bool.or_true,abT,Bool.true_or,Bool.and_false,ac6,Bool.and_self,Bool.or_self]
  all_goals (try unfold vB)
  all_goals (repeat' split)
  all_goals first|rfl|(exfalso;omega)|(simp only[aT,V.tup.injEq,Qg,V.int.injEq,jC,Uj];omega)|(exfalso;simp_all;done)|(simp_all;done)
def minT:af:=[109,105,110]
def ZS:af:=[109,97,120]
def Lt:af:=[111,110,108,121]
def fw (n:Int):af×Int:=if -32767≤n∧n≤32767 then(if n= -32767 then(minT,0) else(text n,0)) else([],1)
def iC (m n:Int):af×Int:=if -32767≤n∧n≤32767 then(if n<m then([],14) else if n=m then(Lt,0) else if n=32767 then(ZS,0) else(text n,0)) else([],1)
def resS (p:af×Int):V:=.tup [.str p.1,.int .i64 p.2]
theorem Cf (n:Int):aj yE 31 [.int .i64 n] (resS (fw n)):=by
 refine au XB XD 5 4 ?_
 (rw[KT];(conv=>zeta))
 unfold fw resS minT;simp only[bM,aM,bY,aO,aA,bq,if_true,ac7,GU,CK,abx,abY];repeat' split
 all_goals first|rfl|(exfalso;omega)|(simp only[aT,V.tup.injEq,Qg,V.int.injEq,jC,Uj];omega)|(exfalso;simp_all;done)|(simp_all;done)
theorem JR (m n:Int):aj yE 32 [.int .i64 m,.int .i64 n] (resS (iC m n)):=by
 refine au XB XD 5 4 ?_
 (rw[TM];(conv=>zeta))
 unfold iC resS ZS Lt;simp only[bM,aM,bY,aO,aA,bq,if_true,ac7,GU,CK,abx,abY];repeat' split
 all_goals first|rfl|(exfalso;omega)|(simp only[aT,V.tup.injEq,Qg,V.int.injEq,jC,Uj];omega)|(exfalso;simp_all;done)|(simp_all;done)
def yFI (s:af):Int:=(pJ s).1
def yFW (s:af):Int:=(pJ s).2
def yTI (s:af) (n:Int):Int:=(CV s n).1
def yTW (s:af) (n:Int):Int:=(CV s n).2
def yfT (n:Int):af:=(fw n).1
def yfW (n:Int):Int:=(fw n).2
def ytT (m n:Int):af:=(iC m n).1
def ytW (m n:Int):Int:=(iC m n).2
theorem RV (n:Int):numeral (text n)=true:=by
 have h:=rX (n.natAbs+1) n.natAbs (by omega);unfold text;by_cases a:n<0
 ·rw[if_pos a];rfl
 rw[if_neg a,FD]
 cases e:gy n.natAbs with
 |nil=>exact absurd e h.2
 |cons c l=>have:=List.all_eq_true.1 h.1 c (by rw[e];exact .head _);unfold isDigit at this;show UK c=true;unfold UK;rw[this,Bool.or_true]
theorem DX {n:Int} (h: -32767≤n∧n≤32767):Fits n:=by unfold Fits;omega
theorem MK (n:Int) (h: -32767≤n∧n≤32767):vB (text n)=(n,0):=by
 have a:=Mv n (DX h);have b:iF (text n)=n:=by unfold iF;rw[a]
 have c:nrW (text n)=0:=by unfold nrW;rw[a]
 unfold vB;rw[b,c,if_pos rfl,if_pos h]
theorem Yr:oU Lt FE=0∧mo Lt FE=2:=by decide+kernel
theorem max_mt:oU ZS FE=0∧mo ZS FE=1:=by decide+kernel
theorem min_mt:oU minT FE=0∧mo minT FE=0:=by decide+kernel
theorem Yn (m:Int):(yfT m).length≤25:=by
 unfold yfT fw;split
 ·rename_i h
  split
  ·decide
  have:=(vX m (DX h)).1;simp only;omega
 simp
theorem Yo (m n:Int):(ytT m n).length≤25:=by
 unfold ytT iC;split
 ·rename_i h
  split
  ·simp
  split
  ·decide
  split
  ·decide
  have:=(vX n (DX h)).1;simp only;omega
 simp
theorem yf_back (m:Int) (h:yfW m=0):yFI (yfT m)=m∧yFW (yfT m)=0:=by
 unfold yfW fw at h;unfold yFI yFW yfT fw;split at h
 ·rename_i b
  rw[if_pos b];by_cases a:m= -32767
  ·rw[if_pos a]
   unfold pJ;rw[if_neg (by decide),if_pos min_mt];exact⟨a.symm,rfl⟩
  rw[if_neg a];unfold pJ;rw[if_pos (RV m),MK m b];exact⟨rfl,rfl⟩
 cases h
theorem yt_back (m n:Int) (h:ytW m n=0):yTI (ytT m n) m=n∧yTW (ytT m n) m=0:=by
 unfold ytW iC at h;unfold yTI yTW ytT iC;split at h
 ·rename_i d
  rw[if_pos d];split at h
  ·cases h
  rename_i a;rw[if_neg a];by_cases c:n=m
  ·rw[if_pos c]
   have e:jd Lt m=(m,0):=by unfold jd;rw[if_neg (by decide),if_pos Yr.1,Yr.2];rfl
   unfold CV;rw[e,if_neg (by simp)];exact⟨c.symm,rfl⟩
  rw[if_neg c];by_cases b:n=32767
  ·rw[if_pos b]
   have e:jd ZS m=(32767,0):=by unfold jd;rw[if_neg (by decide),if_pos max_mt.1,max_mt.2];rfl
   unfold CV;rw[e,if_neg (by simp only;omega)];exact⟨b.symm,rfl⟩
  rw[if_neg b];have e:jd (text n) m=(n,0):=by unfold jd;rw[if_pos (RV n),MK n d]
  unfold CV;rw[e,if_neg (by simp only;omega)];exact⟨rfl,rfl⟩
 cases h
theorem yto_err (s:af) (m:Int):(yTW s m≠0→yTI s m=0)∧(yTW s m=0→m≤yTI s m):=by
 unfold yTW yTI CV;have a:(jd s m).2≠0→(jd s m).1=0:=by
  unfold jd vB
  (repeat' split)<;>simp
 split
 ·rename_i h
  exact⟨fun _=>rfl,fun h=>by cases h⟩
 rename_i h;exact⟨a,fun b=>by omega⟩
end Nt.Ev.YtjcencojgajgdaaGreatDoor
