/-
  Year: equations of functions, as the evaluator prints them. Years: what the program's functions and the document's answer.
-/
import Derived.Test.YtknhlobahpgkeaaGreatDoorME
set_option linter.all false
set_option maxRecDepth 100000
namespace Nt.Ev.YtknhlobahpgkeaaGreatDoor
open Go Nt.Num Go.Proofs.YtknhlobahpgkeaaGreatDoor
noncomputable def yE:Env:=⟨Go.Proofs.Tryz.prog,fun _=>none⟩
noncomputable def nReadS:aC:=fun a=>match a with|[.str s]=>some (av (aA s) 1000,.tup [.int .i64 (iG s),.int .i64 (nrW s)])|_=>none
noncomputable def nTextS:aC:=fun a=>match a with|[.int .i64 m]=>some (ak (av (-9223372036854775808) m) (av m 9223372036854775807),.str (text m))|_=>none
noncomputable def matchS:aC:=fun a=>match a with|[.str s,.sl e [.str] o ws]=>some (ak (av (aA s) 1000) (uO ws),.tup [.int .i64 (mo s ws),.int .i64 (oP s ws)])|_=>none
noncomputable def idxS:aC:=fun a=>match a with|[.str s,.int .u8 c]=>some (true,.int .i64 (vw s c))|_=>none
noncomputable def yS:List (Nat×aC):=(154,nReadS)::(54,nTextS)::(46,matchS)::(65,idxS)::[]
theorem Z5 (F s) (K:V→Option V):
 bA yE (bu yE yS F 4) F 128 [V.str s] K=
 let B:=[V.str [109,105,110,105,109,117,109],V.str [109,97,120,105,109,117,109],V.str [111,110,108,121]];let D:=V.int .i64 0;let H:=av (aA s) 1000;let C:=sel (aL (ieq (nrW s) 0)) (K (V.tup [D,V.int .i64 (nrW s)])) (K (V.tup [V.int .i64 (iG s),D]));let E:=K (V.tup [D,V.int .i64 1]);let G:=K (V.tup [D,V.int .i64 3]);let A:=sel (ak H (uO B)) (sel (aL (ieq (oP s B) 0)) G (sel (aL (ieq (mo s B) 0)) G (K (V.tup [V.int .i64 (-32767),D])))) (none);sel (seq s []) A (sel (ak (av 0 0) (aW 0 (aA s))) (sel (aW (vw [45,48,49,50,51,52,53,54,55,56,57] (sat s 0)) 0) A (sel H (sel (ieq (nrW s) 0) (sel (av (-32767) (iG s)) (sel (aL (av (iG s) 32767)) E C) E) C) none)) none):=by kernel_rfl
theorem yTo_top (F s n) (K:V→Option V):
 bA yE (bu yE yS F 4) F 129 [V.str s,V.int .i64 n] K=
 let A:=[V.str [109,105,110,105,109,117,109],V.str [109,97,120,105,109,117,109],V.str [111,110,108,121]];let G:=V.int .i64 0;let P:=ieq (nrW s) 0;let Q:=av (aA s) 1000;let E:=K (V.tup [G,V.int .i64 14]);let H:=V.int .i64 (oP s A);let I:=ieq (oP s A) 0;let J:=K (V.tup [G,V.int .i64 (nrW s)]);let M:=K (V.tup [G,V.int .i64 1]);let O:=K (V.tup [G,V.int .i64 3]);let C:=sel (aL P) (sel P (sel (aW 0 n) E J) J) (sel (aW (iG s) n) E (K (V.tup [V.int .i64 (iG s),G])));let L:=K (V.tup [V.int .i64 32767,H]);let N:=K (V.tup [V.int .i64 n,H]);let B:=sel I (sel (ieq (mo s A) 2) (sel I (sel (aW n n) E N) N) O) O;let D:=sel (ak Q (uO A)) (sel I (sel (ieq (mo s A) 1) (sel I (sel (aW 32767 n) E L) L) B) B) (none);sel (seq s []) D (sel (ak (av 0 0) (aW 0 (aA s))) (sel (aW (vw [45,48,49,50,51,52,53,54,55,56,57] (sat s 0)) 0) D (sel Q (sel P (sel (av (-32767) (iG s)) (sel (aL (av (iG s) 32767)) M C) M) C) none)) none):=by kernel_rfl
theorem Ke (F n) (K:V→Option V):
 bA yE (bu yE yS F 4) F 27 [V.int .i64 n] K=
 let A:=K (V.tup [V.str [],V.int .i64 1]);sel (av (-32767) n) (sel (aL (av n 32767)) A (sel (ieq n (-32767)) (K (V.tup [V.str [109,105,110],V.int .i64 0])) (sel (ak (av (-9223372036854775808) n) (av n 9223372036854775807)) (K (V.tup [V.str (text n),V.int .i64 0])) none))) A:=by kernel_rfl
theorem SE (F m n) (K:V→Option V):
 bA yE (bu yE yS F 4) F 28 [V.int .i64 m,V.int .i64 n] K=
 let A:=K (V.tup [V.str [],V.int .i64 1]);let B:=V.int .i64 0;sel (av (-32767) n) (sel (aL (av n 32767)) A (sel (aW n m) (K (V.tup [V.str [],V.int .i64 14])) (sel (ieq n m) (K (V.tup [V.str [111,110,108,121],B])) (sel (ieq n 32767) (K (V.tup [V.str [109,97,120],B])) (sel (ak (av (-9223372036854775808) n) (av n 9223372036854775807)) (K (V.tup [V.str (text n),B])) none))))) A:=by kernel_rfl
open Nt
theorem Wt:uL yE:=⟨by kernel_rfl,by kernel_rfl⟩
theorem toY {f:Nat} {args:ah} {r:V} (h:aj nE f args r):aj yE f args r:=aj.env (E:=nE) rfl (fun n v h=>by cases h) h
theorem len_of {s:af} (h:av (aA s) 1000=true):s.length≤1000:=by rw[aB,aI] at h;omega
theorem Z6 (s:af) (a:av (aA s) 1000=true):aj yE 154 [.str s] (.tup [.int .i64 (iG s),.int .i64 (nrW s)]):=toY (NR s (len_of a))
theorem fits_of {m:Int} (h:ak (av (-9223372036854775808) m) (av m 9223372036854775807)=true):Fits m:=by rw[aM,aB,aB] at h;exact h
theorem Z7 (m:Int) (a:ak (av (-9223372036854775808) m) (av m 9223372036854775807)=true):aj yE 54 [.int .i64 m] (.str (text m)):=toY (Bw m (fits_of a))
theorem Z8 (s:af) (e:Nat) (o:Option Nat) (a:ah) (c:ak (av (aA s) 1000) (uO a)=true):aj yE 46 [.str s,.sl e [.str] o a] (.tup [.int .i64 (mo s a),.int .i64 (oP s a)]):=by obtain⟨b,d⟩:=aO c;exact toY (Il s e o a (len_of b) d)
theorem idxS_ok (s:af) (c:Int) (a:true=true):aj yE 65 [.str s,.int .u8 c] (.int .i64 (vw s c)):=toY (idx_c s c)
theorem Wu:bf yE yS:=by
 unfold yS;refine bf.cons (fun args r h=>?_) (bf.cons (fun args r h=>?_) (bf.cons (fun args r h=>?_) (bf.cons (fun args r h=>?_) bf.nil)));all_goals (revert h;intro h;first|unfold nReadS at h|unfold nTextS at h|unfold matchS at h|unfold idxS at h)
 all_goals (split at h;rotate_left; · cases h)
 all_goals (simp only[aR,bM] at h;obtain⟨a,rfl⟩:=h)
 ·exact Z6 _ a
 ·exact Z7 _ a
 ·exact Z8 _ _ _ _ a
 exact idxS_ok _ _ rfl
def TS (c:UInt8):Bool:=decide (c.toNat=45)||(decide (48≤c.toNat)&&decide (c.toNat≤57))
def numeral:af→Bool
 |[]=>false
 |c::_=>TS c
theorem Xo (c:UInt8):aW (vw [45,48,49,50,51,52,53,54,55,56,57] ((c.toNat:Nat):Int)) 0= !TS c:=by
 have h: ∀n:Fin 256,aW (vw [45,48,49,50,51,52,53,54,55,56,57] ((n.val:Nat):Int)) 0= !TS (UInt8.ofNat n):=by decide+kernel
 have:=h ⟨c.toNat,c.toNat_lt⟩;simpa using this
def E4:ah:=[V.str [109,105,110,105,109,117,109],V.str [109,97,120,105,109,117,109],V.str [111,110,108,121]]
def vD (s:af):Int×Int:=if nrW s=0 then(if -32767≤iG s∧iG s≤32767 then(iG s,0) else(0,1)) else(0,nrW s)
def pG (s:af):Int×Int:=if numeral s=true then vD s else if oP s E4=0∧mo s E4=0 then(-32767,0) else(0,3)
def jg (s:af) (n:Int):Int×Int:=if numeral s=true then vD s else if oP s E4=0 then(if mo s E4=1 then(32767,0) else if mo s E4=2 then(n,0) else(0,3)) else(0,3)
def CB (s:af) (n:Int):Int×Int:=if(jg s n).2=0∧(jg s n).1<n then(0,14) else jg s n
def YQ (p:Int×Int):V:=.tup [.int .i64 p.1,.int .i64 p.2]
theorem Xp (s:af) (a:ah):oP s a=0∨oP s a=3:=by
 unfold oP;rcases Words.mt_err ⟨s.toArray⟩ (Tv a) with h|h<;>rw[h]
 ·exact .inl rfl
 exact .inr rfl
theorem mtI_bd (s:af) (a:ah):0≤mo s a∧(oP s a=0→mo s a<a.length)∧(oP s a≠0→mo s a=0):=by
 unfold mo oP;refine⟨by omega,fun h=>?_,fun h=>?_⟩
 ·have:=(Words.mt_told ⟨s.toArray⟩ (Tv a) (Words.mt ⟨s.toArray⟩ (Tv a)).1 (by rw[show(Words.mt ⟨s.toArray⟩ (Tv a))=((Words.mt ⟨s.toArray⟩ (Tv a)).1,(Words.mt ⟨s.toArray⟩ (Tv a)).2) from rfl];congr 1;omega)).2.1
  unfold Tv at this⊢;rw[kJ] at this;omega
 have:=Words.mt_not ⟨s.toArray⟩ (Tv a) (Words.mt ⟨s.toArray⟩ (Tv a)).1 (Words.mt ⟨s.toArray⟩ (Tv a)).2 rfl (by omega);omega
theorem wsY_ok:uO E4=true:=by decide
theorem L5 (c:UInt8) (l:af):aA (c::l)=(l.length:Int)+1:=by unfold aA;simp
theorem QO (c:UInt8) (l:af):sat (c::l) 0=(c.toNat:Int):=rfl
theorem QR (c:UInt8) (l:af):seq (c::l) []=false:=by unfold seq;rfl
theorem yFrom_ev (s:af) (e:s.length≤1000):aj yE 128 [.str s] (YQ (pG s)):=by
 refine au Wt Wu 5 4 ?_
 (rw[Z5];(conv=>zeta))
 rw[show[V.str [109,105,110,105,109,117,109],V.str [109,97,120,105,109,117,109],V.str [111,110,108,121]]=E4 from rfl,wsY_ok]
 cases s with
 |nil=>
  have a:av (aA []) 1000=true:=rfl;have d:seq [] []=true:=rfl;simp only[a,d,bK,aM,bW,aN,if_true,ac5];unfold pG numeral YQ;simp only[JP,Cu];repeat' split
  all_goals first|rfl|(exfalso;simp_all;done)
 |cons c l=>
  have b:aW 0 (aA (c::l))=true:=bH (by rw[L5];omega);have a:av (aA (c::l)) 1000=true:=bg (by rw[aI];omega);simp only[b,a,QR,QO,Xo];unfold pG numeral vD YQ;simp only[bK,aM,bW,aN,aB,if_true,ac5,JP,Cu];repeat' split
  all_goals first|rfl|(exfalso;simp_all;done)|(exfalso;omega)
set_option maxHeartbeats 2000000 in
theorem yTo_ev (s:af) (n:Int) (hs:s.length≤1000):aj yE 129 [.str s,.int .i64 n] (YQ (CB s n)):=by
 refine au Wt Wu 5 4 ?_
 (rw[yTo_top];(conv=>zeta))
 rw[show[V.str [109,105,110,105,109,117,109],V.str [109,97,120,105,109,117,109],V.str [111,110,108,121]]=E4 from rfl,wsY_ok]
 cases s with
 |nil=>
  have h2:av (aA []) 1000=true:=rfl;have h3:seq [] []=true:=rfl;have hw:=Xp [] E4;obtain⟨hb1,hb2,hb3⟩:=mtI_bd [] E4;rw[show E4.length=3 from rfl] at hb2;unfold CB jg numeral YQ;simp only[h2,h3,bK,aM,bW,aN,bq,if_true,ac5,JP,Cu,abv];repeat' split
  all_goals first|rfl|(exfalso;omega)|(simp only[aR,V.tup.injEq,Pf,V.int.injEq,jA,Tp];omega)|(exfalso;simp_all;done)|(simp_all;done)
 |cons c l=>
  have h1:aW 0 (aA (c::l))=true:=bH (by rw[L5];omega);have h2:av (aA (c::l)) 1000=true:=bg (by rw[aI];omega);have h4:ieq (c.toNat:Int) 45=decide (c.toNat=45):=by unfold ieq;rw[uF];simp;omega
  have h5:av 48 (c.toNat:Int)=decide (48≤c.toNat):=by unfold av;rw[uF];simp;omega
  have h6:av (c.toNat:Int) 57=decide (c.toNat≤57):=by unfold av;rw[uF];simp;omega
  have hw:=Xp (c::l) E4;obtain⟨hb1,hb2,hb3⟩:=mtI_bd (c::l) E4;rw[show E4.length=3 from rfl] at hb2;simp only[h1,h2,QR,QO,Xo,h4,h5,h6];unfold CB jg YQ;rw[show numeral (c::l)=TS c from rfl];clear h4 h5 h6 h1 h2;generalize TS c=q
  cases q<;>simp only[acJ,acX,bK,aM,bW,aN,aB,bq,if_true,ac5,JP,Cu,abv,abX,ac6,Bool.or_true,abS,Bool.true_or,Bool.and_false,ac4,Bool.and_self,Bool.or_self]
  all_goals (try unfold vD)
  all_goals (repeat' split)
  all_goals first|rfl|(exfalso;omega)|(simp only[aR,V.tup.injEq,Pf,V.int.injEq,jA,Tp];omega)|(exfalso;simp_all;done)|(simp_all;done)
def minT:af:=[109,105,110]
def YR:af:=[109,97,120]
def KM:af:=[111,110,108,121]
def fe (n:Int):af×Int:=if -32767≤n∧n≤32767 then(if n= -32767 then(minT,0) else(text n,0)) else([],1)
def iC (m n:Int):af×Int:=if -32767≤n∧n≤32767 then(if n<m then([],14) else if n=m then(KM,0) else if n=32767 then(YR,0) else(text n,0)) else([],1)
def resS (p:af×Int):V:=.tup [.str p.1,.int .i64 p.2]
theorem Cf (n:Int):aj yE 27 [.int .i64 n] (resS (fe n)):=by
 refine au Wt Wu 5 4 ?_
 (rw[Ke];(conv=>zeta))
 unfold fe resS minT;simp only[bK,aM,bW,aN,aB,bq,if_true,ac5,JP,Cu,abv,abX];repeat' split
 all_goals first|rfl|(exfalso;omega)|(simp only[aR,V.tup.injEq,Pf,V.int.injEq,jA,Tp];omega)|(exfalso;simp_all;done)|(simp_all;done)
theorem Jm (m n:Int):aj yE 28 [.int .i64 m,.int .i64 n] (resS (iC m n)):=by
 refine au Wt Wu 5 4 ?_
 (rw[SE];(conv=>zeta))
 unfold iC resS YR KM;simp only[bK,aM,bW,aN,aB,bq,if_true,ac5,JP,Cu,abv,abX];repeat' split
 all_goals first|rfl|(exfalso;omega)|(simp only[aR,V.tup.injEq,Pf,V.int.injEq,jA,Tp];omega)|(exfalso;simp_all;done)|(simp_all;done)
def yFI (s:af):Int:=(pG s).1
def yFW (s:af):Int:=(pG s).2
def yTI (s:af) (n:Int):Int:=(CB s n).1
def yTW (s:af) (n:Int):Int:=(CB s n).2
def yfT (n:Int):af:=(fe n).1
def yfW (n:Int):Int:=(fe n).2
def ytT (m n:Int):af:=(iC m n).1
def ytW (m n:Int):Int:=(iC m n).2
theorem QS (n:Int):numeral (text n)=true:=by
 have h:=r9 (n.natAbs+1) n.natAbs (by omega);unfold text;by_cases a:n<0
 ·rw[if_pos a];rfl
 rw[if_neg a,Fx]
 cases e:gy n.natAbs with
 |nil=>exact absurd e h.2
 |cons c l=>have:=List.all_eq_true.1 h.1 c (by rw[e];exact .head _);unfold isDigit at this;show TS c=true;unfold TS;rw[this,Bool.or_true]
theorem Dz {n:Int} (h: -32767≤n∧n≤32767):Fits n:=by unfold Fits;omega
theorem L6 (n:Int) (h: -32767≤n∧n≤32767):vD (text n)=(n,0):=by
 have a:=LK n (Dz h);have b:iG (text n)=n:=by unfold iG;rw[a]
 have c:nrW (text n)=0:=by unfold nrW;rw[a]
 unfold vD;rw[b,c,if_pos rfl,if_pos h]
theorem Xq:oP KM E4=0∧mo KM E4=2:=by decide+kernel
theorem max_mt:oP YR E4=0∧mo YR E4=1:=by decide+kernel
theorem min_mt:oP minT E4=0∧mo minT E4=0:=by decide+kernel
theorem Xm (m:Int):(yfT m).length≤25:=by
 unfold yfT fe;split
 ·rename_i h
  split
  ·decide
  have:=(vY m (Dz h)).1;simp only;omega
 simp
theorem Xn (m n:Int):(ytT m n).length≤25:=by
 unfold ytT iC;split
 ·rename_i h
  split
  ·simp
  split
  ·decide
  split
  ·decide
  have:=(vY n (Dz h)).1;simp only;omega
 simp
theorem yf_back (m:Int) (h:yfW m=0):yFI (yfT m)=m∧yFW (yfT m)=0:=by
 unfold yfW fe at h;unfold yFI yFW yfT fe;split at h
 ·rename_i b
  rw[if_pos b];by_cases a:m= -32767
  ·rw[if_pos a]
   unfold pG;rw[if_neg (by decide),if_pos min_mt];exact⟨a.symm,rfl⟩
  rw[if_neg a];unfold pG;rw[if_pos (QS m),L6 m b];exact⟨rfl,rfl⟩
 cases h
theorem yt_back (m n:Int) (h:ytW m n=0):yTI (ytT m n) m=n∧yTW (ytT m n) m=0:=by
 unfold ytW iC at h;unfold yTI yTW ytT iC;split at h
 ·rename_i d
  rw[if_pos d];split at h
  ·cases h
  rename_i a;rw[if_neg a];by_cases c:n=m
  ·rw[if_pos c]
   have e:jg KM m=(m,0):=by unfold jg;rw[if_neg (by decide),if_pos Xq.1,Xq.2];rfl
   unfold CB;rw[e,if_neg (by simp)];exact⟨c.symm,rfl⟩
  rw[if_neg c];by_cases b:n=32767
  ·rw[if_pos b]
   have e:jg YR m=(32767,0):=by unfold jg;rw[if_neg (by decide),if_pos max_mt.1,max_mt.2];rfl
   unfold CB;rw[e,if_neg (by simp only;omega)];exact⟨b.symm,rfl⟩
  rw[if_neg b];have e:jg (text n) m=(n,0):=by unfold jg;rw[if_pos (QS n),L6 n d]
  unfold CB;rw[e,if_neg (by simp only;omega)];exact⟨rfl,rfl⟩
 cases h
theorem yto_err (s:af) (m:Int):(yTW s m≠0→yTI s m=0)∧(yTW s m=0→m≤yTI s m):=by
 unfold yTW yTI CB;have a:(jg s m).2≠0→(jg s m).1=0:=by
  unfold jg vD
  (repeat' split)<;>simp
 split
 ·rename_i h
  exact⟨fun _=>rfl,fun h=>by cases h⟩
 rename_i h;exact⟨a,fun b=>by omega⟩
end Nt.Ev.YtknhlobahpgkeaaGreatDoor
