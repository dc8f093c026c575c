/-
  ReadLaw: equations of functions, as the evaluator prints them. The reader of sources: equal tables are the same; the statement that tells. ReadTells: the contract.
-/
import Derived.Test.YtplklcejbmfgdaaGreatDoorMXM
set_option linter.unusedVariables false
set_option linter.unusedSimpArgs false
set_option linter.unusedSectionVars false
namespace Nt.Ev.YtplklcejbmfgdaaGreatDoor.Rr
set_option maxRecDepth 100000
open Go Nt.Num Go.Proofs.YtplklcejbmfgdaaGreatDoor
variable [nP]
open Nt.Ev.YtplklcejbmfgdaaGreatDoor
open Nt.Civil
open Nt.Fld
open Nt.Ev.YtplklcejbmfgdaaGreatDoor.Lk
noncomputable def sqZ (n:List UInt8) (es:List V) (m:List UInt8) (fs:List V):Bool:=@decide (n=m∧es=fs∧es.length≤1000000) (Classical.propDecidable _)
noncomputable def sqI (es fs:List V):Bool:=@decide (es=fs∧es.length≤1000000) (Classical.propDecidable _)
noncomputable def sqT (a b c a2 b2 c2:List V):Bool:=@decide (a=a2∧b=b2∧c=c2∧a.length≤1000000∧b.length≤1000000∧c.length≤1000000∧ ∀z∈b,(ZW (ah z 1)).length≤1000000) (Classical.propDecidable _)
noncomputable def ksT (k0 k1 k2 q0 q1 q2:List Kd):Bool:=(Kd.qV kR k0&&Kd.qV kZ k1)&&(Kd.qV kL k2&&(Kd.qV kR q0&&(Kd.qV kZ q1&&Kd.qV kL q2)))
noncomputable def lTbS:aG:=fun a=>match a with|[.str s]=>some (true,tbV (xw s) (xx s) (uq s) (tbWr s) (tbWe s) (tbWl s) (tbL s) (EH s))|_=>none
noncomputable def lSzS:aG:=fun a=>match a with|[.agg [.str n,.sl e1 k1 o1 es],.agg [.str m,.sl e2 k2 o2 fs]]=>some (bif Kd.qV kE k1&&Kd.qV kE k2 then sqZ n es m fs else false,.bool true)|_=>none
noncomputable def lInS:aG:=fun a=>match a with|[.sl e1 k1 o1 es,.sl e2 k2 o2 fs]=>some (bif Kd.qV kI k1&&Kd.qV kI k2 then sqI es fs else false,.bool true)|_=>none
noncomputable def lSaS:aG:=fun a=>match a with|[.agg [.sl e0 k0 o0 a,.sl e1 k1 o1 b,.sl e2 k2 o2 c],.agg [.sl f0 q0 p0 a2,.sl f1 q1 p1 b2,.sl f2 q2 p2 c2]]=>some (bif ksT k0 k1 k2 q0 q1 q2 then sqT a b c a2 b2 c2 else false,.bool true)|_=>none
noncomputable def lSe:List (Nat×aG):=[]
noncomputable def lS0:List (Nat×aG):=(35,lSzS)::(57,lInS)::[]
noncomputable def ME (F:Nat) (ns:List Nat) (n:Nat) (ni:List UInt8) (nk:List V) (kG:List UInt8) (kH:List V) (x4:Bool) (Z6 Oz:Int) (oQ:List UInt8) (jP:List V) (l9:List UInt8) (kD:List V) (K:V→Option V):Option V:=
 iG eE lSe F 2 35 [1,1,0,1,0] ns K n (mY 38 [(0,V.agg [V.str ni,V.sl 59 kE none nk]),(1,V.agg [V.str kG,V.sl 59 kE none kH]),(2,V.box 2 0),(3,V.box 3 0),(4,V.bool x4),(22,V.int .i64 Z6),(23,V.int .i64 Oz)] [(3,[V.str oQ,V.sl 59 kE none jP]),(2,[V.str l9,V.sl 59 kE none kD])])
theorem lSz_top (F:Nat) (n:List UInt8) (es:List V) (K:V→Option V):
 bW eE (bT eE lSe F 2) F 35 [V.agg [V.str n,V.sl 59 kE none es],V.agg [V.str n,V.sl 59 kE none es]] K=
 let A:=K (V.bool false);sel (aK (seq n n)) A (sel (aK (ieq (av es) (av es))) A (ME F [] F n es n es false (av es) 0 n es n es K)):=by kernel_rfl
theorem Er (F n:Nat) (ni:List UInt8) (nk:List V) (kG:List UInt8) (kH:List V) (x4:Bool) (Z6 Oz:Int) (oQ:List UInt8) (jP:List V) (l9:List UInt8) (kD:List V) (K:V→Option V):
 ME F [] (n+1) ni nk kG kH x4 Z6 Oz oQ jP l9 kD K=
 let A:=aX kD Oz;let B:=aX jP Oz;sel (aU Oz Z6) (sel (ai (ak 0 Oz) (aU Oz (av kD))) (sel (ai (ak 0 Oz) (aU Oz (av jP))) (sel (aK (ai (ieq (asInt (ah A 0)) (asInt (ah B 0))) (ai (ieq (asInt (ah A 1)) (asInt (ah B 1))) (ai (ieq (asInt (ah A 2)) (asInt (ah B 2))) (ai (seq (aH (ah A 3)) (aH (ah B 3))) (ai (seq (aH (ah A 4)) (aH (ah B 4))) (ai (beq (asBool (ah A 5)) (asBool (ah B 5))) (ai (ieq (asInt (ah A 6)) (asInt (ah B 6))) (ai (ieq (asInt (ah A 7)) (asInt (ah B 7))) (ai (ai (ieq (asInt (ah A 8)) (asInt (ah B 8))) (ai (ieq (asInt (ah A 9)) (asInt (ah B 9))) (ieq (asInt (ah A 10)) (asInt (ah B 10))))) (ai (ieq (asInt (ah A 11)) (asInt (ah B 11))) (ieq (asInt (ah A 12)) (asInt (ah B 12)))))))))))))) (K (V.bool false)) (ME F [] n ni nk kG kH x4 Z6 (eu .i64 Oz 1) oQ jP l9 kD K)) none) none) (K (V.bool true)):=by kernel_rfl
noncomputable def MF (F:Nat) (ns:List Nat) (n:Nat) (x0 x1:List V) (x4:Bool) (lu uD:Int) (K:V→Option V):Option V:=
 iG eE lSe F 2 57 [1,1,0,1,0] ns K n (mY 26 [(0,V.sl 3 [Kd.int .i64] none x0),(1,V.sl 3 [Kd.int .i64] none x1),(4,V.bool x4),(12,V.int .i64 lu),(13,V.int .i64 uD)] [])
theorem lIn_top (F:Nat) (es:List V) (K:V→Option V):
 bW eE (bT eE lSe F 2) F 57 [V.sl 3 [Kd.int .i64] none es,V.sl 3 [Kd.int .i64] none es] K=
 sel (aK (ieq (av es) (av es))) (K (V.bool false)) (MF F [] F es es false (av es) 0 K):=by kernel_rfl
theorem Es (F n:Nat) (x0 x1:List V) (x4:Bool) (lu uD:Int) (K:V→Option V):
 MF F [] (n+1) x0 x1 x4 lu uD K=
 sel (aU uD lu) (sel (ai (ak 0 uD) (aU uD (av x0))) (sel (ai (ak 0 uD) (aU uD (av x1))) (sel (aK (ieq (asInt (ah (aX x0 uD) 0)) (asInt (ah (aX x1 uD) 0)))) (K (V.bool false)) (MF F [] n x0 x1 x4 lu (eu .i64 uD 1) K)) none) none) (K (V.bool true)):=by kernel_rfl
noncomputable def MG (F:Nat) (ns:List Nat) (n:Nat) (ni nk qL kG kH mr:List V) (x4:Bool) (OB FC:Int) (oQ jP sK l9 kD nQ:List V) (K:V→Option V):Option V:=
 iG eE lS0 F 2 13 [1,1,0,1,0] ns K n (mY 88 [(0,V.agg [V.sl 47 kR none ni,V.sl 54 kZ none nk,V.sl 50 kL none qL]),(1,V.agg [V.sl 47 kR none kG,V.sl 54 kZ none kH,V.sl 50 kL none mr]),(2,V.box 2 0),(3,V.box 3 0),(4,V.bool x4),(6,V.tup []),(7,V.tup []),(35,V.int .i64 OB),(36,V.int .i64 FC),(53,V.tup []),(54,V.tup []),(71,V.tup []),(72,V.tup [])] [(3,[V.sl 47 kR none oQ,V.sl 54 kZ none jP,V.sl 50 kL none sK]),(2,[V.sl 47 kR none l9,V.sl 54 kZ none kD,V.sl 50 kL none nQ])])
noncomputable def MH (F:Nat) (ns:List Nat) (n:Nat) (ni nk qL kG kH mr:List V) (x4:Bool) (OB FC x53 x54:Int) (oQ jP sK l9 kD nQ:List V) (K:V→Option V):Option V:=
 iG eE lS0 F 2 13 [1,1,1,0,1,0] ns K n (mY 88 [(0,V.agg [V.sl 47 kR none ni,V.sl 54 kZ none nk,V.sl 50 kL none qL]),(1,V.agg [V.sl 47 kR none kG,V.sl 54 kZ none kH,V.sl 50 kL none mr]),(2,V.box 2 0),(3,V.box 3 0),(4,V.bool x4),(7,V.tup []),(35,V.int .i64 OB),(36,V.int .i64 FC),(53,V.int .i64 x53),(54,V.int .i64 x54),(71,V.tup []),(72,V.tup [])] [(3,[V.sl 47 kR none oQ,V.sl 54 kZ none jP,V.sl 50 kL none sK]),(2,[V.sl 47 kR none l9,V.sl 54 kZ none kD,V.sl 50 kL none nQ])])
noncomputable def MI (F:Nat) (ns:List Nat) (n:Nat) (ni nk qL kG kH mr:List V) (x4:Bool) (OB FC x53 x54 x71 Xf:Int) (oQ jP sK l9 kD nQ:List V) (K:V→Option V):Option V:=
 iG eE lS0 F 2 13 [1,1,1,1,0,1,0] ns K n (mY 88 [(0,V.agg [V.sl 47 kR none ni,V.sl 54 kZ none nk,V.sl 50 kL none qL]),(1,V.agg [V.sl 47 kR none kG,V.sl 54 kZ none kH,V.sl 50 kL none mr]),(2,V.box 2 0),(3,V.box 3 0),(4,V.bool x4),(35,V.int .i64 OB),(36,V.int .i64 FC),(53,V.int .i64 x53),(54,V.int .i64 x54),(71,V.int .i64 x71),(72,V.int .i64 Xf)] [(3,[V.sl 47 kR none oQ,V.sl 54 kZ none jP,V.sl 50 kL none sK]),(2,[V.sl 47 kR none l9,V.sl 54 kZ none kD,V.sl 50 kL none nQ])])
theorem lSa_top (F:Nat) (a b c:List V) (K:V→Option V):
 bW eE (bT eE lS0 F 2) F 13 [V.agg [V.sl 47 kR none a,V.sl 54 kZ none b,V.sl 50 kL none c],V.agg [V.sl 47 kR none a,V.sl 54 kZ none b,V.sl 50 kL none c]] K=
 let A:=K (V.bool false);sel (aK (ieq (av a) (av a))) A (sel (aK (ieq (av b) (av b))) A (sel (aK (ieq (av c) (av c))) A (MG F [] F a b c a b c false (av a) 0 a b c a b c K))):=by kernel_rfl
theorem Et (F n:Nat) (ni nk qL kG kH mr:List V) (x4:Bool) (OB FC:Int) (oQ jP sK l9 kD nQ:List V) (K:V→Option V):
 MG F [] (n+1) ni nk qL kG kH mr x4 OB FC oQ jP sK l9 kD nQ K=
 let A:=aX l9 FC;let B:=aX oQ FC;sel (aU FC OB) (sel (ai (ak 0 FC) (aU FC (av l9))) (sel (ai (ak 0 FC) (aU FC (av oQ))) (sel (aK (ai (seq (aH (ah A 0)) (aH (ah B 0))) (ai (ieq (asInt (ah A 1)) (asInt (ah B 1))) (ai (ieq (asInt (ah A 2)) (asInt (ah B 2))) (ai (ieq (asInt (ah A 3)) (asInt (ah B 3))) (ai (ai (ieq (asInt (ah A 4)) (asInt (ah B 4))) (ai (ieq (asInt (ah A 5)) (asInt (ah B 5))) (ieq (asInt (ah A 6)) (asInt (ah B 6))))) (ai (ai (ieq (asInt (ah A 7)) (asInt (ah B 7))) (ieq (asInt (ah A 8)) (asInt (ah B 8)))) (ai (ieq (asInt (ah A 9)) (asInt (ah B 9))) (seq (aH (ah A 10)) (aH (ah B 10))))))))))) (K (V.bool false)) (MG F [] n ni nk qL kG kH mr x4 OB (eu .i64 FC 1) oQ jP sK l9 kD nQ K)) none) none) (MH F [] F ni nk qL kG kH mr x4 OB FC (av nQ) 0 oQ jP sK l9 kD nQ K):=by kernel_rfl
theorem Eu (F n:Nat) (ni nk qL kG kH mr:List V) (x4:Bool) (OB FC x53 x54:Int) (oQ jP sK l9 kD nQ:List V) (K:V→Option V):
 MH F [] (n+1) ni nk qL kG kH mr x4 OB FC x53 x54 oQ jP sK l9 kD nQ K=
 sel (aU x54 x53) (sel (ai (ak 0 x54) (aU x54 (av nQ))) (sel (ai (ak 0 x54) (aU x54 (av sK))) (sel (aK (ai (seq (aH (ah (aX nQ x54) 0)) (aH (ah (aX sK x54) 0))) (seq (aH (ah (aX nQ x54) 1)) (aH (ah (aX sK x54) 1))))) (K (V.bool false)) (MH F [] n ni nk qL kG kH mr x4 OB FC x53 (eu .i64 x54 1) oQ jP sK l9 kD nQ K)) none) none) (MI F [] F ni nk qL kG kH mr x4 OB FC x53 x54 (av kD) 0 oQ jP sK l9 kD nQ K):=by kernel_rfl
theorem Ew (F n:Nat) (ni nk qL kG kH mr:List V) (x4:Bool) (OB FC x53 x54 x71 Xf:Int) (oQ jP sK l9 kD nQ:List V) (K:V→Option V):
 MI F [] (n+1) ni nk qL kG kH mr x4 OB FC x53 x54 x71 Xf oQ jP sK l9 kD nQ K=
 sel (aU Xf x71) (sel (ai (ak 0 Xf) (aU Xf (av kD))) (sel (ai (ak 0 Xf) (aU Xf (av jP))) (sel (sqZ (aH (ah (aX kD Xf) 0)) (ZW (ah (aX kD Xf) 1)) (aH (ah (aX jP Xf) 0)) (ZW (ah (aX jP Xf) 1))) (MI F [] n ni nk qL kG kH mr x4 OB FC x53 x54 x71 (eu .i64 Xf 1) oQ jP sK l9 kD nQ K) none) none) none) (K (V.bool true)):=by kernel_rfl
open Go.RowKit Nt
theorem lSe_ok:bn eE lSe:=bn.nil
theorem jF (a:Int):ieq a a=true:=bq rfl
theorem BD (a:List UInt8):seq a a=true:=by rw[dh]
theorem De (a:Bool):beq a a=true:=by cases a<;>rfl
theorem Fq:ai true true=true:=rfl
theorem Cs {G:aP} {e1 e2:Nat} {o1 o2:Option Nat} {sh:List Kd} {xs:List V} {v:Value} (h:aO G (.sl e1 sh o1 xs) v):aO G (.sl e2 sh o2 xs) v:=by
 unfold aO at h⊢;exact h
theorem WS {G:aP} {e0 e1 e2 t0 t1 t2:Nat} {o0 o1 o2 p0 p1 p2:Option Nat} {k0 k1 k2:List Kd} {a b c:List V} {v:Value} (h:aO G (.agg [.sl e0 k0 o0 a,.sl e1 k1 o1 b,.sl e2 k2 o2 c]) v):aO G (.agg [.sl t0 k0 p0 a,.sl t1 k1 p1 b,.sl t2 k2 p2 c]) v:=by
 unfold aO at h;obtain⟨l,rfl,h⟩:=h;unfold jv at h;obtain⟨v1,l1,rfl,h1,h⟩:=h;unfold jv at h;obtain⟨v2,l2,rfl,h2,h⟩:=h;unfold jv at h;obtain⟨v3,l3,rfl,h3,h⟩:=h;unfold aO;refine⟨_,rfl,?_⟩;unfold jv;refine⟨_,_,rfl,Cs h1,?_⟩;unfold jv;refine⟨_,_,rfl,Cs h2,?_⟩;unfold jv;exact⟨_,_,rfl,Cs h3,h⟩
theorem rep_z {G:aP} {e t:Nat} {o p:Option Nat} {k:List Kd} {n:List UInt8} {a:List V} {v:Value} (h:aO G (.agg [.str n,.sl e k o a]) v):aO G (.agg [.str n,.sl t k p a]) v:=by
 unfold aO at h;obtain⟨l,rfl,h⟩:=h;unfold jv at h;obtain⟨v1,l1,rfl,h1,h⟩:=h;unfold jv at h;obtain⟨v2,l2,rfl,h2,h⟩:=h;unfold aO;refine⟨_,rfl,?_⟩;unfold jv;refine⟨_,_,rfl,h1,?_⟩;unfold jv;exact⟨_,_,rfl,Cs h2,h⟩
theorem NB {E:Env} {f:Nat} {x y x' y' r:V} (h1: ∀G v,aO G x v→aO G x' v) (h2: ∀G v,aO G y v→aO G y' v) (c:af E f [x',y'] r):af E f [x,y] r:=by
 intro G w vs hG hg hp;obtain⟨v1,t1,rfl,q1,hp⟩:=hp.cons_inv;obtain⟨v2,t2,rfl,q2,hp⟩:=hp.cons_inv;exact c G w _ hG hg (.cons (h1 _ _ q1) (.cons (h2 _ _ q2) hp))
theorem TE {p:Prop} (h: @decide p (Classical.propDecidable p)=true):p:=@of_decide_eq_true p (Classical.propDecidable p) h
theorem to_dec {p:Prop} (h:p): @decide p (Classical.propDecidable p)=true:=@decide_eq_true p (Classical.propDecidable p) h
theorem sqZ_self {n:List UInt8} {es:List V} (h:es.length≤1000000):sqZ n es n es=true:=to_dec ⟨rfl,rfl,h⟩
theorem sz_loop (F:Nat) (n1 n2 n3 n4:List UInt8) (e1 e2 es:List V) (hx:es.length≤1000000): ∀(j i n:Nat),i+j=es.length→j<n→
  ME F [] n n1 e1 n2 e2 false (av es) (i:Int) n3 es n4 es some=some (.bool true):=by
 intro j;induction j with
 |zero=>
  intro i n hi hn;obtain⟨n,rfl⟩: ∃k,n=k+1:=⟨n-1,by omega⟩
  (rw[Er];(conv=>zeta);rw[aW (bD (by rw[aA];omega))])
 |succ j ih=>
  intro i n hi hn;obtain⟨n,rfl⟩: ∃k,n=k+1:=⟨n-1,by omega⟩
  have b:ai (ak 0 (i:Int)) (aU (i:Int) (av es))=true:=by rw[aJ,ay,bf,aA];omega
  (rw[Er];(conv=>zeta);rw[aB (bE (by rw[aA];omega)),aB b,aB b])
  simp only[jF,BD,De,Fq,iw,iC];rw[fU (by omega),show(i:Int)+1=((i+1:Nat):Int) by omega];exact ih (i+1) n (by omega) (by omega)
theorem lSzS_ok (n:List UInt8) (e1:Nat) (k1:List Kd) (o1:Option Nat) (es:List V) (m:List UInt8) (e2:Nat) (k2:List Kd) (o2:Option Nat) (fs:List V) (hc:(bif Kd.qV kE k1&&Kd.qV kE k2 then sqZ n es m fs else false)=true):af eE 35 [.agg [.str n,.sl e1 k1 o1 es],.agg [.str m,.sl e2 k2 o2 fs]] (.bool true):=by
 obtain⟨h,hc⟩:=lU hc;rw[Bool.and_eq_true] at h;obtain rfl:=Kd.bK _ _ h.1;obtain rfl:=Kd.bK _ _ h.2;obtain⟨rfl,rfl,hl⟩:=TE hc;refine NB (x':=.agg [.str n,.sl 59 kE none es]) (y':=.agg [.str n,.sl 59 kE none es]) (fun _ _ h=>rep_z h) (fun _ _ h=>rep_z h) ?_;refine aj iX lSe_ok (es.length+1) 2 ?_
 (rw[lSz_top];(conv=>zeta);rw[BD,jF])
 exact sz_loop (es.length+1) n n n n es es es hl es.length 0 (es.length+1) (by omega) (by omega)
theorem in_loop (F:Nat) (es:List V) (hx:es.length≤1000000): ∀(j i n:Nat),i+j=es.length→j<n→
  MF F [] n es es false (av es) (i:Int) some=some (.bool true):=by
 intro j;induction j with
 |zero=>
  intro i n hi hn;obtain⟨n,rfl⟩: ∃k,n=k+1:=⟨n-1,by omega⟩
  rw[Es,aW (bD (by rw[aA];omega))]
 |succ j ih=>
  intro i n hi hn;obtain⟨n,rfl⟩: ∃k,n=k+1:=⟨n-1,by omega⟩
  have b:ai (ak 0 (i:Int)) (aU (i:Int) (av es))=true:=by rw[aJ,ay,bf,aA];omega
  rw[Es,aB (bE (by rw[aA];omega)),aB b,aB b];simp only[jF,iw,iC];rw[fU (by omega),show(i:Int)+1=((i+1:Nat):Int) by omega];exact ih (i+1) n (by omega) (by omega)
theorem lInS_ok (e1:Nat) (k1:List Kd) (o1:Option Nat) (es:List V) (e2:Nat) (k2:List Kd) (o2:Option Nat) (fs:List V) (hc:(bif Kd.qV kI k1&&Kd.qV kI k2 then sqI es fs else false)=true):af eE 57 [.sl e1 k1 o1 es,.sl e2 k2 o2 fs] (.bool true):=by
 obtain⟨h,hc⟩:=lU hc;rw[Bool.and_eq_true] at h;obtain rfl:=Kd.bK _ _ h.1;obtain rfl:=Kd.bK _ _ h.2;obtain⟨rfl,hl⟩:=TE hc;refine NB (x':=.sl 3 kI none es) (y':=.sl 3 kI none es) (fun _ _ h=>Cs h) (fun _ _ h=>Cs h) ?_;refine aj iX lSe_ok (es.length+1) 2 ?_;rw[lIn_top,jF];exact in_loop (es.length+1) es hl es.length 0 (es.length+1) (by omega) (by omega)
theorem lS0_ok:bn eE lS0:=by
 unfold lS0;refine bn.cons (fun args r h=>?_) (bn.cons (fun args r h=>?_) bn.nil);all_goals (revert h;intro h;first|unfold lSzS at h|unfold lInS at h)
 all_goals (split at h;rotate_left; · cases h)
 all_goals (simp only[Option.some.injEq,Prod.mk.injEq] at h;obtain⟨hc,rfl⟩:=h)
 ·exact lSzS_ok _ _ _ _ _ _ _ _ _ _ hc
 ·exact lInS_ok _ _ _ _ _ _ _ _ hc
theorem sa_2 (F:Nat) (x1 x2 x3 x4 x5 x6:List V) (x7:Bool) (y1 y2 y3 y4:Int) (a3 c3 a4 c4 es:List V) (hx:es.length≤1000000) (hz: ∀z∈es,(ZW (ah z 1)).length≤1000000): ∀(j i n:Nat),i+j=es.length→j<n→
  MI F [] n x1 x2 x3 x4 x5 x6 x7 y1 y2 y3 y4 (av es) (i:Int) a3 es c3 a4 es c4 some=some (.bool true):=by
 intro j;induction j with
 |zero=>
  intro i n hi hn;obtain⟨n,rfl⟩: ∃k,n=k+1:=⟨n-1,by omega⟩
  rw[Ew,aW (bD (by rw[aA];omega))]
 |succ j ih=>
  intro i n hi hn;obtain⟨n,rfl⟩: ∃k,n=k+1:=⟨n-1,by omega⟩
  have b:ai (ak 0 (i:Int)) (aU (i:Int) (av es))=true:=by rw[aJ,ay,bf,aA];omega
  rw[Ew,aB (bE (by rw[aA];omega)),aB b,aB b,aB (sqZ_self (hz _ (get_mem (by omega)))),fU (by omega),show(i:Int)+1=((i+1:Nat):Int) by omega];exact ih (i+1) n (by omega) (by omega)
theorem sa_1 (F:Nat) (x1 x2 x3 x4 x5 x6:List V) (x7:Bool) (y1 y2:Int) (a3 a4 es ks:List V) (hF:es.length<F) (hx:es.length≤1000000) (hz: ∀z∈es,(ZW (ah z 1)).length≤1000000) (hk:ks.length≤1000000): ∀(j i n:Nat),i+j=ks.length→j<n→
  MH F [] n x1 x2 x3 x4 x5 x6 x7 y1 y2 (av ks) (i:Int) a3 es ks a4 es ks some=some (.bool true):=by
 intro j;induction j with
 |zero=>
  intro i n hi hn;obtain⟨n,rfl⟩: ∃k,n=k+1:=⟨n-1,by omega⟩
  rw[Eu,aW (bD (by rw[aA];omega))];exact sa_2 F _ _ _ _ _ _ _ _ _ _ _ _ _ _ _ es hx hz es.length 0 F (by omega) hF
 |succ j ih=>
  intro i n hi hn;obtain⟨n,rfl⟩: ∃k,n=k+1:=⟨n-1,by omega⟩
  have b:ai (ak 0 (i:Int)) (aU (i:Int) (av ks))=true:=by rw[aJ,ay,bf,aA];omega
  rw[Eu,aB (bE (by rw[aA];omega)),aB b,aB b];simp only[jF,BD,De,Fq,iw,iC];rw[fU (by omega),show(i:Int)+1=((i+1:Nat):Int) by omega];exact ih (i+1) n (by omega) (by omega)
theorem sa_0 (F:Nat) (x1 x2 x3 x4 x5 x6:List V) (x7:Bool) (rs es ks:List V) (hF:es.length<F) (hF2:ks.length<F) (hx:es.length≤1000000) (hz: ∀z∈es,(ZW (ah z 1)).length≤1000000) (hk:ks.length≤1000000) (hr:rs.length≤1000000): ∀(j i n:Nat),i+j=rs.length→j<n→
  MG F [] n x1 x2 x3 x4 x5 x6 x7 (av rs) (i:Int) rs es ks rs es ks some=some (.bool true):=by
 intro j;induction j with
 |zero=>
  intro i n hi hn;obtain⟨n,rfl⟩: ∃k,n=k+1:=⟨n-1,by omega⟩
  (rw[Et];(conv=>zeta);rw[aW (bD (by rw[aA];omega))])
  exact sa_1 F _ _ _ _ _ _ _ _ _ _ _ es ks hF hx hz hk ks.length 0 F (by omega) hF2
 |succ j ih=>
  intro i n hi hn;obtain⟨n,rfl⟩: ∃k,n=k+1:=⟨n-1,by omega⟩
  have b:ai (ak 0 (i:Int)) (aU (i:Int) (av rs))=true:=by rw[aJ,ay,bf,aA];omega
  (rw[Et];(conv=>zeta);rw[aB (bE (by rw[aA];omega)),aB b,aB b])
  simp only[jF,BD,De,Fq,iw,iC];rw[fU (by omega),show(i:Int)+1=((i+1:Nat):Int) by omega];exact ih (i+1) n (by omega) (by omega)
theorem lSaS_ok (e0:Nat) (k0:List Kd) (o0:Option Nat) (a:List V) (e1:Nat) (k1:List Kd) (o1:Option Nat) (b:List V) (e2:Nat) (k2:List Kd) (o2:Option Nat) (c:List V) (f0:Nat) (q0:List Kd) (p0:Option Nat) (a2:List V) (f1:Nat) (q1:List Kd) (p1:Option Nat) (b2:List V) (f2:Nat) (q2:List Kd) (p2:Option Nat) (c2:List V) (hc:(bif ksT k0 k1 k2 q0 q1 q2 then sqT a b c a2 b2 c2 else false)=true):af eE 13 [.agg [.sl e0 k0 o0 a,.sl e1 k1 o1 b,.sl e2 k2 o2 c],.agg [.sl f0 q0 p0 a2,.sl f1 q1 p1 b2,.sl f2 q2 p2 c2]] (.bool true):=by
 obtain⟨h,hc⟩:=lU hc;unfold ksT at h;simp only[Bool.and_eq_true] at h;obtain⟨⟨h1,h2⟩,h3,h4,h5,h6⟩:=h;obtain rfl:=Kd.bK _ _ h1;obtain rfl:=Kd.bK _ _ h2;obtain rfl:=Kd.bK _ _ h3;obtain rfl:=Kd.bK _ _ h4;obtain rfl:=Kd.bK _ _ h5;obtain rfl:=Kd.bK _ _ h6;obtain⟨rfl,rfl,rfl,ha,hb,hc,hz⟩:=TE hc;refine NB (x':=.agg [.sl 47 kR none a,.sl 54 kZ none b,.sl 50 kL none c]) (y':=.agg [.sl 47 kR none a,.sl 54 kZ none b,.sl 50 kL none c]) (fun _ _ h=>WS h) (fun _ _ h=>WS h) ?_;refine aj iX lS0_ok (a.length+b.length+c.length+1) 2 ?_
 (rw[lSa_top];(conv=>zeta);rw[jF,jF,jF])
 exact sa_0 _ _ _ _ _ _ _ _ a b c (by omega) (by omega) hb hz hc ha a.length 0 _ (by omega) (by omega)
theorem lTbS_ok (s:List UInt8) (hc:true=true):af eE 11 [.str s] (tbV (xw s) (xx s) (uq s) (tbWr s) (tbWe s) (tbWl s) (tbL s) (EH s)):=tbP_ev s
def Few (t:qg):Prop:=(∀z∈t.zs,(ZW (ah z 1)).length≤256)∧ ∀z∈t.we,(ZW (ah z 0)).length≤256
theorem ZM {x:V} {e:Nat} {sh:List Kd} {o:Option Nat} {ys:List V} (h:ys.length≤256):(ZW (ah (aset x 1 (.sl e sh o ys)) 1)).length≤256:=by
 show(ZW ((x.cells.set 1 (.sl e sh o ys)).getD 1 .any)).length≤256;rcases Nat.lt_or_ge 1 x.cells.length with hl|hl
 ·rw[List.getD_eq_getElem?_getD,List.getElem?_set_self hl]
  exact h
 ·rw[List.getD_eq_getElem?_getD,List.getElem?_eq_none (by simpa using hl)]
  show([]:List V).length≤256;simp
theorem Few.step {t:qg} (hg:Good t) (h:Few t) {ln:Int} {s:List UInt8} (he:t.err s=0):Few (t.step ln s):=by
 obtain⟨hk,_,_⟩:=err_0 he;rcases hk with kd|⟨kd,ho,er⟩|⟨ho,kd,er⟩|⟨ho,kd,er⟩|⟨ho,kd,er⟩
 ·rw[iU kd];exact h
 ·rw[iU kd]
  have hy:=(nM er).2;rw[aA] at hy;have hye:=hg.ye;refine⟨fun z hz=>?_,fun z hz=>?_⟩
  ·have hz:z∈oq t.zs t.yz (cK s):=hz
   unfold oq om at hz;rcases List.mem_or_eq_of_mem_set hz with h1|rfl
   ·exact h.1 z h1
   ·exact ZM (by unfold aM;rw[List.length_append,List.length_singleton];omega)
  ·have hz:z∈q8 t.we t.ye ln:=hz
   unfold q8 om at hz;rcases List.mem_or_eq_of_mem_set hz with h1|rfl
   ·exact h.2 z h1
   ·show(aM t.ye [.int .i64 ln]).length≤256
    unfold aM;rw[List.length_append,List.length_singleton];omega
 ·rw[iU kd];exact h
 ·rw[iU kd]
  refine⟨fun z hz=>?_,fun z hz=>?_⟩
  ·have hz:z∈sJ t.zs (tl1 (cK s)):=hz
   unfold sJ aM at hz;rw[List.mem_append,List.mem_singleton] at hz;rcases hz with hz|rfl
   ·exact h.1 z hz
   ·show([qK (tl1 (tl1 (cK s)))]:List V).length≤256
    simp
  ·have hz:z∈Ar t.we ln:=hz
   unfold Ar aM at hz;rw[List.mem_append,List.mem_singleton] at hz;rcases hz with hz|rfl
   ·exact h.2 z hz
   ·show([V.int .i64 ln]:List V).length≤256
    simp
 ·rw[iU kd];exact h
end Nt.Ev.YtplklcejbmfgdaaGreatDoor.Rr
