/-
  ReadLaw: equations of functions, as the evaluator prints them. The reader of sources: equal tables are the same; the statement that tells. ReadTells: the contract.
-/
import Derived.Test.YtplklcejbmfgdaaGreatDoorMXM
set_option linter.unusedVariables false
set_option linter.unusedSimpArgs false
set_option linter.unusedSectionVars false
namespace Nt.Ev.YtplklcejbmfgdaaGreatDoor.Rr
set_option maxRecDepth 100000
open Go Nt.Num Go.Proofs.YtplklcejbmfgdaaGreatDoor
variable [mJ]
open Nt.Ev.YtplklcejbmfgdaaGreatDoor
open Nt.Civil
open Nt.Fld
open Nt.Ev.YtplklcejbmfgdaaGreatDoor.Lk
noncomputable def sqZ (n:List UInt8) (es:List V) (m:List UInt8) (fs:List V):Bool:=@decide (n=m∧es=fs∧es.length≤1000000) (Classical.propDecidable _)
noncomputable def sqI (es fs:List V):Bool:=@decide (es=fs∧es.length≤1000000) (Classical.propDecidable _)
noncomputable def sqT (a b c a2 b2 c2:List V):Bool:=@decide (a=a2∧b=b2∧c=c2∧a.length≤1000000∧b.length≤1000000∧c.length≤1000000∧ ∀z∈b,(I6 (ax z 1)).length≤1000000) (Classical.propDecidable _)
noncomputable def sqW (a b c a2 b2 c2:List V):Bool:=@decide (a=a2∧b=b2∧c=c2∧a.length≤1000000∧b.length≤1000000∧c.length≤1000000∧ ∀z∈b,(I6 (ax z 0)).length≤1000000) (Classical.propDecidable _)
noncomputable def ksT (k0 k1 k2 q0 q1 q2:List Kd):Bool:=(Kd.qO kR k0&&Kd.qO kZ k1)&&(Kd.qO kL k2&&(Kd.qO kR q0&&(Kd.qO kZ q1&&Kd.qO kL q2)))
noncomputable def TT:aF:=fun a=>match a with|[.str s]=>some (true,tbV (qT s) (qU s) (qV s) (Gj s) (Gl s) (Gm s) (qp s) (rU s))|_=>none
noncomputable def lSzS:aF:=fun a=>match a with|[.agg [.str n,.sl e1 k1 o1 es],.agg [.str m,.sl e2 k2 o2 fs]]=>some (bif Kd.qO kE k1&&Kd.qO kE k2 then sqZ n es m fs else false,.bool true)|_=>none
noncomputable def lInS:aF:=fun a=>match a with|[.sl e1 k1 o1 es,.sl e2 k2 o2 fs]=>some (bif Kd.qO kI k1&&Kd.qO kI k2 then sqI es fs else false,.bool true)|_=>none
noncomputable def lSaS:aF:=fun a=>match a with|[.agg [.sl e0 k0 o0 a,.sl e1 k1 o1 b,.sl e2 k2 o2 c],.agg [.sl f0 q0 p0 a2,.sl f1 q1 p1 b2,.sl f2 q2 p2 c2]]=>some (bif ksT k0 k1 k2 q0 q1 q2 then sqT a b c a2 b2 c2 else false,.bool true)|_=>none
noncomputable def lLvS:aF:=fun a=>match a with|[]=>some (true,.bool true)|_=>none
noncomputable def lSe:List (Nat×aF):=[]
noncomputable def lS0:List (Nat×aF):=(35,lSzS)::(57,lInS)::[]
noncomputable def lSv:List (Nat×aF):=(11,TT)::[]
noncomputable def JK (F:Nat) (ns:List Nat) (n:Nat) (mK:List UInt8) (mM:List V) (qf:List UInt8) (qg:List V) (x4:Bool) (V8 Lc:Int) (fT:List UInt8) (dM:List V) (lI:List UInt8) (jY:List V) (K:V→Option V):Option V:=
 iA eE lSe F 2 35 [1,1,0,1,0] ns K n (mH 38 [(0,V.agg [V.str mK,V.sl 59 kE none mM]),(1,V.agg [V.str qf,V.sl 59 kE none qg]),(2,V.box 2 0),(3,V.box 3 0),(4,V.bool x4),(22,V.int .i64 V8),(23,V.int .i64 Lc)] [(3,[V.str fT,V.sl 59 kE none dM]),(2,[V.str lI,V.sl 59 kE none jY])])
theorem lSz_top (F:Nat) (n:List UInt8) (es:List V) (K:V→Option V):
 cr eE (bV eE lSe F 2) F 35 [V.agg [V.str n,V.sl 59 kE none es],V.agg [V.str n,V.sl 59 kE none es]] K=
 let A:=K (V.bool false);sel (aG (seq n n)) A (sel (aG (ieq (av es) (av es))) A (JK F [] F n es n es false (av es) 0 n es n es K)):=by kernel_rfl
theorem CK (F n:Nat) (mK:List UInt8) (mM:List V) (qf:List UInt8) (qg:List V) (x4:Bool) (V8 Lc:Int) (fT:List UInt8) (dM:List V) (lI:List UInt8) (jY:List V) (K:V→Option V):
 JK F [] (n+1) mK mM qf qg x4 V8 Lc fT dM lI jY K=
 let A:=aP jY Lc;let B:=aP dM Lc;sel (aT Lc V8) (sel (ak (ai 0 Lc) (aT Lc (av jY))) (sel (ak (ai 0 Lc) (aT Lc (av dM))) (sel (aG (ak (ieq (asInt (ax A 0)) (asInt (ax B 0))) (ak (ieq (asInt (ax A 1)) (asInt (ax B 1))) (ak (ieq (asInt (ax A 2)) (asInt (ax B 2))) (ak (seq (aR (ax A 3)) (aR (ax B 3))) (ak (seq (aR (ax A 4)) (aR (ax B 4))) (ak (beq (asBool (ax A 5)) (asBool (ax B 5))) (ak (ieq (asInt (ax A 6)) (asInt (ax B 6))) (ak (ieq (asInt (ax A 7)) (asInt (ax B 7))) (ak (ak (ieq (asInt (ax A 8)) (asInt (ax B 8))) (ak (ieq (asInt (ax A 9)) (asInt (ax B 9))) (ieq (asInt (ax A 10)) (asInt (ax B 10))))) (ak (ieq (asInt (ax A 11)) (asInt (ax B 11))) (ieq (asInt (ax A 12)) (asInt (ax B 12)))))))))))))) (K (V.bool false)) (JK F [] n mK mM qf qg x4 V8 (fB .i64 Lc 1) fT dM lI jY K)) none) none) (K (V.bool true)):=by kernel_rfl
noncomputable def JL (F:Nat) (ns:List Nat) (n:Nat) (x0 x1:List V) (x4:Bool) (Df DI:Int) (K:V→Option V):Option V:=
 iA eE lSe F 2 57 [1,1,0,1,0] ns K n (mH 26 [(0,V.sl 3 [Kd.int .i64] none x0),(1,V.sl 3 [Kd.int .i64] none x1),(4,V.bool x4),(12,V.int .i64 Df),(13,V.int .i64 DI)] [])
theorem lIn_top (F:Nat) (es:List V) (K:V→Option V):
 cr eE (bV eE lSe F 2) F 57 [V.sl 3 [Kd.int .i64] none es,V.sl 3 [Kd.int .i64] none es] K=
 sel (aG (ieq (av es) (av es))) (K (V.bool false)) (JL F [] F es es false (av es) 0 K):=by kernel_rfl
theorem CL (F n:Nat) (x0 x1:List V) (x4:Bool) (Df DI:Int) (K:V→Option V):
 JL F [] (n+1) x0 x1 x4 Df DI K=
 sel (aT DI Df) (sel (ak (ai 0 DI) (aT DI (av x0))) (sel (ak (ai 0 DI) (aT DI (av x1))) (sel (aG (ieq (asInt (ax (aP x0 DI) 0)) (asInt (ax (aP x1 DI) 0)))) (K (V.bool false)) (JL F [] n x0 x1 x4 Df (fB .i64 DI 1) K)) none) none) (K (V.bool true)):=by kernel_rfl
noncomputable def JM (F:Nat) (ns:List Nat) (n:Nat) (mK mM p8 qf qg vN:List V) (x4:Bool) (Lg DJ:Int) (fT dM gG lI jY ny:List V) (K:V→Option V):Option V:=
 iA eE lS0 F 2 13 [1,1,0,1,0] ns K n (mH 88 [(0,V.agg [V.sl 47 kR none mK,V.sl 54 kZ none mM,V.sl 50 kL none p8]),(1,V.agg [V.sl 47 kR none qf,V.sl 54 kZ none qg,V.sl 50 kL none vN]),(2,V.box 2 0),(3,V.box 3 0),(4,V.bool x4),(6,V.tup []),(7,V.tup []),(35,V.int .i64 Lg),(36,V.int .i64 DJ),(53,V.tup []),(54,V.tup []),(71,V.tup []),(72,V.tup [])] [(3,[V.sl 47 kR none fT,V.sl 54 kZ none dM,V.sl 50 kL none gG]),(2,[V.sl 47 kR none lI,V.sl 54 kZ none jY,V.sl 50 kL none ny])])
noncomputable def JN (F:Nat) (ns:List Nat) (n:Nat) (mK mM p8 qf qg vN:List V) (x4:Bool) (Lg DJ Wo x54:Int) (fT dM gG lI jY ny:List V) (K:V→Option V):Option V:=
 iA eE lS0 F 2 13 [1,1,1,0,1,0] ns K n (mH 88 [(0,V.agg [V.sl 47 kR none mK,V.sl 54 kZ none mM,V.sl 50 kL none p8]),(1,V.agg [V.sl 47 kR none qf,V.sl 54 kZ none qg,V.sl 50 kL none vN]),(2,V.box 2 0),(3,V.box 3 0),(4,V.bool x4),(7,V.tup []),(35,V.int .i64 Lg),(36,V.int .i64 DJ),(53,V.int .i64 Wo),(54,V.int .i64 x54),(71,V.tup []),(72,V.tup [])] [(3,[V.sl 47 kR none fT,V.sl 54 kZ none dM,V.sl 50 kL none gG]),(2,[V.sl 47 kR none lI,V.sl 54 kZ none jY,V.sl 50 kL none ny])])
noncomputable def JO (F:Nat) (ns:List Nat) (n:Nat) (mK mM p8 qf qg vN:List V) (x4:Bool) (Lg DJ Wo x54 x71 Tv:Int) (fT dM gG lI jY ny:List V) (K:V→Option V):Option V:=
 iA eE lS0 F 2 13 [1,1,1,1,0,1,0] ns K n (mH 88 [(0,V.agg [V.sl 47 kR none mK,V.sl 54 kZ none mM,V.sl 50 kL none p8]),(1,V.agg [V.sl 47 kR none qf,V.sl 54 kZ none qg,V.sl 50 kL none vN]),(2,V.box 2 0),(3,V.box 3 0),(4,V.bool x4),(35,V.int .i64 Lg),(36,V.int .i64 DJ),(53,V.int .i64 Wo),(54,V.int .i64 x54),(71,V.int .i64 x71),(72,V.int .i64 Tv)] [(3,[V.sl 47 kR none fT,V.sl 54 kZ none dM,V.sl 50 kL none gG]),(2,[V.sl 47 kR none lI,V.sl 54 kZ none jY,V.sl 50 kL none ny])])
theorem lSa_top (F:Nat) (a b c:List V) (K:V→Option V):
 cr eE (bV eE lS0 F 2) F 13 [V.agg [V.sl 47 kR none a,V.sl 54 kZ none b,V.sl 50 kL none c],V.agg [V.sl 47 kR none a,V.sl 54 kZ none b,V.sl 50 kL none c]] K=
 let A:=K (V.bool false);sel (aG (ieq (av a) (av a))) A (sel (aG (ieq (av b) (av b))) A (sel (aG (ieq (av c) (av c))) A (JM F [] F a b c a b c false (av a) 0 a b c a b c K))):=by kernel_rfl
theorem CO (F n:Nat) (mK mM p8 qf qg vN:List V) (x4:Bool) (Lg DJ:Int) (fT dM gG lI jY ny:List V) (K:V→Option V):
 JM F [] (n+1) mK mM p8 qf qg vN x4 Lg DJ fT dM gG lI jY ny K=
 let A:=aP lI DJ;let B:=aP fT DJ;sel (aT DJ Lg) (sel (ak (ai 0 DJ) (aT DJ (av lI))) (sel (ak (ai 0 DJ) (aT DJ (av fT))) (sel (aG (ak (seq (aR (ax A 0)) (aR (ax B 0))) (ak (ieq (asInt (ax A 1)) (asInt (ax B 1))) (ak (ieq (asInt (ax A 2)) (asInt (ax B 2))) (ak (ieq (asInt (ax A 3)) (asInt (ax B 3))) (ak (ak (ieq (asInt (ax A 4)) (asInt (ax B 4))) (ak (ieq (asInt (ax A 5)) (asInt (ax B 5))) (ieq (asInt (ax A 6)) (asInt (ax B 6))))) (ak (ak (ieq (asInt (ax A 7)) (asInt (ax B 7))) (ieq (asInt (ax A 8)) (asInt (ax B 8)))) (ak (ieq (asInt (ax A 9)) (asInt (ax B 9))) (seq (aR (ax A 10)) (aR (ax B 10))))))))))) (K (V.bool false)) (JM F [] n mK mM p8 qf qg vN x4 Lg (fB .i64 DJ 1) fT dM gG lI jY ny K)) none) none) (JN F [] F mK mM p8 qf qg vN x4 Lg DJ (av ny) 0 fT dM gG lI jY ny K):=by kernel_rfl
theorem CP (F n:Nat) (mK mM p8 qf qg vN:List V) (x4:Bool) (Lg DJ Wo x54:Int) (fT dM gG lI jY ny:List V) (K:V→Option V):
 JN F [] (n+1) mK mM p8 qf qg vN x4 Lg DJ Wo x54 fT dM gG lI jY ny K=
 sel (aT x54 Wo) (sel (ak (ai 0 x54) (aT x54 (av ny))) (sel (ak (ai 0 x54) (aT x54 (av gG))) (sel (aG (ak (seq (aR (ax (aP ny x54) 0)) (aR (ax (aP gG x54) 0))) (seq (aR (ax (aP ny x54) 1)) (aR (ax (aP gG x54) 1))))) (K (V.bool false)) (JN F [] n mK mM p8 qf qg vN x4 Lg DJ Wo (fB .i64 x54 1) fT dM gG lI jY ny K)) none) none) (JO F [] F mK mM p8 qf qg vN x4 Lg DJ Wo x54 (av jY) 0 fT dM gG lI jY ny K):=by kernel_rfl
theorem CQ (F n:Nat) (mK mM p8 qf qg vN:List V) (x4:Bool) (Lg DJ Wo x54 x71 Tv:Int) (fT dM gG lI jY ny:List V) (K:V→Option V):
 JO F [] (n+1) mK mM p8 qf qg vN x4 Lg DJ Wo x54 x71 Tv fT dM gG lI jY ny K=
 sel (aT Tv x71) (sel (ak (ai 0 Tv) (aT Tv (av jY))) (sel (ak (ai 0 Tv) (aT Tv (av dM))) (sel (sqZ (aR (ax (aP jY Tv) 0)) (I6 (ax (aP jY Tv) 1)) (aR (ax (aP dM Tv) 0)) (I6 (ax (aP dM Tv) 1))) (JO F [] n mK mM p8 qf qg vN x4 Lg DJ Wo x54 x71 (fB .i64 Tv 1) fT dM gG lI jY ny K) none) none) none) (K (V.bool true)):=by kernel_rfl
open Go.RowKit Nt
theorem Yv:bq eE lSe:=bq.nil
theorem jc (a:Int):ieq a a=true:=bn rfl
theorem zw (a:List UInt8):seq a a=true:=by rw[dI]
theorem Bl (a:Bool):beq a a=true:=by cases a<;>rfl
theorem Dr:ak true true=true:=rfl
theorem Ay {G:aM} {e1 e2:Nat} {o1 o2:Option Nat} {sh:List Kd} {xs:List V} {v:Value} (h:aN G (.sl e1 sh o1 xs) v):aN G (.sl e2 sh o2 xs) v:=by
 unfold aN at h⊢;exact h
theorem S8 {G:aM} {e0 e1 e2 t0 t1 t2:Nat} {o0 o1 o2 p0 p1 p2:Option Nat} {k0 k1 k2:List Kd} {a b c:List V} {v:Value} (h:aN G (.agg [.sl e0 k0 o0 a,.sl e1 k1 o1 b,.sl e2 k2 o2 c]) v):aN G (.agg [.sl t0 k0 p0 a,.sl t1 k1 p1 b,.sl t2 k2 p2 c]) v:=by
 unfold aN at h;obtain⟨l,rfl,h⟩:=h;unfold jm at h;obtain⟨v1,l1,rfl,h1,h⟩:=h;unfold jm at h;obtain⟨v2,l2,rfl,h2,h⟩:=h;unfold jm at h;obtain⟨v3,l3,rfl,h3,h⟩:=h;unfold aN;refine⟨_,rfl,?_⟩;unfold jm;refine⟨_,_,rfl,Ay h1,?_⟩;unfold jm;refine⟨_,_,rfl,Ay h2,?_⟩;unfold jm;exact⟨_,_,rfl,Ay h3,h⟩
theorem rep_z {G:aM} {e t:Nat} {o p:Option Nat} {k:List Kd} {n:List UInt8} {a:List V} {v:Value} (h:aN G (.agg [.str n,.sl e k o a]) v):aN G (.agg [.str n,.sl t k p a]) v:=by
 unfold aN at h;obtain⟨l,rfl,h⟩:=h;unfold jm at h;obtain⟨v1,l1,rfl,h1,h⟩:=h;unfold jm at h;obtain⟨v2,l2,rfl,h2,h⟩:=h;unfold aN;refine⟨_,rfl,?_⟩;unfold jm;refine⟨_,_,rfl,h1,?_⟩;unfold jm;exact⟨_,_,rfl,Ay h2,h⟩
theorem Kr {E:Env} {f:Nat} {x y x' y' r:V} (h1: ∀G v,aN G x v→aN G x' v) (h2: ∀G v,aN G y v→aN G y' v) (c:af E f [x',y'] r):af E f [x,y] r:=by
 intro G w vs hG hg hp;obtain⟨v1,t1,rfl,q1,hp⟩:=hp.cons_inv;obtain⟨v2,t2,rfl,q2,hp⟩:=hp.cons_inv;exact c G w _ hG hg (.cons (h1 _ _ q1) (.cons (h2 _ _ q2) hp))
theorem PV {p:Prop} (h: @decide p (Classical.propDecidable p)=true):p:=@of_decide_eq_true p (Classical.propDecidable p) h
theorem Eu {p:Prop} (h:p): @decide p (Classical.propDecidable p)=true:=@decide_eq_true p (Classical.propDecidable p) h
theorem aaa {n:List UInt8} {es:List V} (h:es.length≤1000000):sqZ n es n es=true:=Eu ⟨rfl,rfl,h⟩
theorem sz_loop (F:Nat) (n1 n2 n3 n4:List UInt8) (e1 e2 es:List V) (hx:es.length≤1000000): ∀(j i n:Nat),i+j=es.length→j<n→
  JK F [] n n1 e1 n2 e2 false (av es) (i:Int) n3 es n4 es some=some (.bool true):=by
 intro j;induction j with
 |zero=>
  intro i n hi hn;obtain⟨n,rfl⟩: ∃k,n=k+1:=⟨n-1,by omega⟩
  (rw[CK];(conv=>zeta);rw[aU (bB (by rw[aD];omega))])
 |succ j ih=>
  intro i n hi hn;obtain⟨n,rfl⟩: ∃k,n=k+1:=⟨n-1,by omega⟩
  have b:ak (ai 0 (i:Int)) (aT (i:Int) (av es))=true:=by rw[aH,aA,bf,aD];omega
  (rw[CK];(conv=>zeta);rw[ay (bD (by rw[aD];omega)),ay b,ay b])
  simp only[jc,zw,Bl,Dr,gP,gV];rw[iO (by omega),show(i:Int)+1=((i+1:Nat):Int) by omega];exact ih (i+1) n (by omega) (by omega)
theorem lSzS_ok (n:List UInt8) (e1:Nat) (k1:List Kd) (o1:Option Nat) (es:List V) (m:List UInt8) (e2:Nat) (k2:List Kd) (o2:Option Nat) (fs:List V) (hc:(bif Kd.qO kE k1&&Kd.qO kE k2 then sqZ n es m fs else false)=true):af eE 35 [.agg [.str n,.sl e1 k1 o1 es],.agg [.str m,.sl e2 k2 o2 fs]] (.bool true):=by
 obtain⟨h,hc⟩:=lG hc;rw[Bool.and_eq_true] at h;obtain rfl:=Kd.bK _ _ h.1;obtain rfl:=Kd.bK _ _ h.2;obtain⟨rfl,rfl,hl⟩:=PV hc;refine Kr (x':=.agg [.str n,.sl 59 kE none es]) (y':=.agg [.str n,.sl 59 kE none es]) (fun _ _ h=>rep_z h) (fun _ _ h=>rep_z h) ?_;refine ah iY Yv (es.length+1) 2 ?_
 (rw[lSz_top];(conv=>zeta);rw[zw,jc])
 exact sz_loop (es.length+1) n n n n es es es hl es.length 0 (es.length+1) (by omega) (by omega)
theorem in_loop (F:Nat) (es:List V) (hx:es.length≤1000000): ∀(j i n:Nat),i+j=es.length→j<n→
  JL F [] n es es false (av es) (i:Int) some=some (.bool true):=by
 intro j;induction j with
 |zero=>
  intro i n hi hn;obtain⟨n,rfl⟩: ∃k,n=k+1:=⟨n-1,by omega⟩
  rw[CL,aU (bB (by rw[aD];omega))]
 |succ j ih=>
  intro i n hi hn;obtain⟨n,rfl⟩: ∃k,n=k+1:=⟨n-1,by omega⟩
  have b:ak (ai 0 (i:Int)) (aT (i:Int) (av es))=true:=by rw[aH,aA,bf,aD];omega
  rw[CL,ay (bD (by rw[aD];omega)),ay b,ay b];simp only[jc,gP,gV];rw[iO (by omega),show(i:Int)+1=((i+1:Nat):Int) by omega];exact ih (i+1) n (by omega) (by omega)
theorem lInS_ok (e1:Nat) (k1:List Kd) (o1:Option Nat) (es:List V) (e2:Nat) (k2:List Kd) (o2:Option Nat) (fs:List V) (hc:(bif Kd.qO kI k1&&Kd.qO kI k2 then sqI es fs else false)=true):af eE 57 [.sl e1 k1 o1 es,.sl e2 k2 o2 fs] (.bool true):=by
 obtain⟨h,hc⟩:=lG hc;rw[Bool.and_eq_true] at h;obtain rfl:=Kd.bK _ _ h.1;obtain rfl:=Kd.bK _ _ h.2;obtain⟨rfl,hl⟩:=PV hc;refine Kr (x':=.sl 3 kI none es) (y':=.sl 3 kI none es) (fun _ _ h=>Ay h) (fun _ _ h=>Ay h) ?_;refine ah iY Yv (es.length+1) 2 ?_;rw[lIn_top,jc];exact in_loop (es.length+1) es hl es.length 0 (es.length+1) (by omega) (by omega)
theorem lS0_ok:bq eE lS0:=by
 unfold lS0;refine bq.cons (fun args r h=>?_) (bq.cons (fun args r h=>?_) bq.nil);all_goals (revert h;intro h;first|unfold lSzS at h|unfold lInS at h)
 all_goals (split at h;rotate_left; · cases h)
 all_goals (simp only[Option.some.injEq,Prod.mk.injEq] at h;obtain⟨hc,rfl⟩:=h)
 ·exact lSzS_ok _ _ _ _ _ _ _ _ _ _ hc
 ·exact lInS_ok _ _ _ _ _ _ _ _ hc
theorem sa_2 (F:Nat) (x1 x2 x3 x4 x5 x6:List V) (x7:Bool) (y1 y2 y3 y4:Int) (a3 c3 a4 c4 es:List V) (hx:es.length≤1000000) (hz: ∀z∈es,(I6 (ax z 1)).length≤1000000): ∀(j i n:Nat),i+j=es.length→j<n→
  JO F [] n x1 x2 x3 x4 x5 x6 x7 y1 y2 y3 y4 (av es) (i:Int) a3 es c3 a4 es c4 some=some (.bool true):=by
 intro j;induction j with
 |zero=>
  intro i n hi hn;obtain⟨n,rfl⟩: ∃k,n=k+1:=⟨n-1,by omega⟩
  rw[CQ,aU (bB (by rw[aD];omega))]
 |succ j ih=>
  intro i n hi hn;obtain⟨n,rfl⟩: ∃k,n=k+1:=⟨n-1,by omega⟩
  have b:ak (ai 0 (i:Int)) (aT (i:Int) (av es))=true:=by rw[aH,aA,bf,aD];omega
  rw[CQ,ay (bD (by rw[aD];omega)),ay b,ay b,ay (aaa (hz _ (get_mem (by omega)))),iO (by omega),show(i:Int)+1=((i+1:Nat):Int) by omega];exact ih (i+1) n (by omega) (by omega)
theorem sa_1 (F:Nat) (x1 x2 x3 x4 x5 x6:List V) (x7:Bool) (y1 y2:Int) (a3 a4 es ks:List V) (hF:es.length<F) (hx:es.length≤1000000) (hz: ∀z∈es,(I6 (ax z 1)).length≤1000000) (hk:ks.length≤1000000): ∀(j i n:Nat),i+j=ks.length→j<n→
  JN F [] n x1 x2 x3 x4 x5 x6 x7 y1 y2 (av ks) (i:Int) a3 es ks a4 es ks some=some (.bool true):=by
 intro j;induction j with
 |zero=>
  intro i n hi hn;obtain⟨n,rfl⟩: ∃k,n=k+1:=⟨n-1,by omega⟩
  rw[CP,aU (bB (by rw[aD];omega))];exact sa_2 F _ _ _ _ _ _ _ _ _ _ _ _ _ _ _ es hx hz es.length 0 F (by omega) hF
 |succ j ih=>
  intro i n hi hn;obtain⟨n,rfl⟩: ∃k,n=k+1:=⟨n-1,by omega⟩
  have b:ak (ai 0 (i:Int)) (aT (i:Int) (av ks))=true:=by rw[aH,aA,bf,aD];omega
  rw[CP,ay (bD (by rw[aD];omega)),ay b,ay b];simp only[jc,zw,Bl,Dr,gP,gV];rw[iO (by omega),show(i:Int)+1=((i+1:Nat):Int) by omega];exact ih (i+1) n (by omega) (by omega)
theorem sa_0 (F:Nat) (x1 x2 x3 x4 x5 x6:List V) (x7:Bool) (rs es ks:List V) (hF:es.length<F) (hF2:ks.length<F) (hx:es.length≤1000000) (hz: ∀z∈es,(I6 (ax z 1)).length≤1000000) (hk:ks.length≤1000000) (hr:rs.length≤1000000): ∀(j i n:Nat),i+j=rs.length→j<n→
  JM F [] n x1 x2 x3 x4 x5 x6 x7 (av rs) (i:Int) rs es ks rs es ks some=some (.bool true):=by
 intro j;induction j with
 |zero=>
  intro i n hi hn;obtain⟨n,rfl⟩: ∃k,n=k+1:=⟨n-1,by omega⟩
  (rw[CO];(conv=>zeta);rw[aU (bB (by rw[aD];omega))])
  exact sa_1 F _ _ _ _ _ _ _ _ _ _ _ es ks hF hx hz hk ks.length 0 F (by omega) hF2
 |succ j ih=>
  intro i n hi hn;obtain⟨n,rfl⟩: ∃k,n=k+1:=⟨n-1,by omega⟩
  have b:ak (ai 0 (i:Int)) (aT (i:Int) (av rs))=true:=by rw[aH,aA,bf,aD];omega
  (rw[CO];(conv=>zeta);rw[ay (bD (by rw[aD];omega)),ay b,ay b])
  simp only[jc,zw,Bl,Dr,gP,gV];rw[iO (by omega),show(i:Int)+1=((i+1:Nat):Int) by omega];exact ih (i+1) n (by omega) (by omega)
theorem lSaS_ok (e0:Nat) (k0:List Kd) (o0:Option Nat) (a:List V) (e1:Nat) (k1:List Kd) (o1:Option Nat) (b:List V) (e2:Nat) (k2:List Kd) (o2:Option Nat) (c:List V) (f0:Nat) (q0:List Kd) (p0:Option Nat) (a2:List V) (f1:Nat) (q1:List Kd) (p1:Option Nat) (b2:List V) (f2:Nat) (q2:List Kd) (p2:Option Nat) (c2:List V) (hc:(bif ksT k0 k1 k2 q0 q1 q2 then sqT a b c a2 b2 c2 else false)=true):af eE 13 [.agg [.sl e0 k0 o0 a,.sl e1 k1 o1 b,.sl e2 k2 o2 c],.agg [.sl f0 q0 p0 a2,.sl f1 q1 p1 b2,.sl f2 q2 p2 c2]] (.bool true):=by
 obtain⟨h,hc⟩:=lG hc;unfold ksT at h;simp only[Bool.and_eq_true] at h;obtain⟨⟨h1,h2⟩,h3,h4,h5,h6⟩:=h;obtain rfl:=Kd.bK _ _ h1;obtain rfl:=Kd.bK _ _ h2;obtain rfl:=Kd.bK _ _ h3;obtain rfl:=Kd.bK _ _ h4;obtain rfl:=Kd.bK _ _ h5;obtain rfl:=Kd.bK _ _ h6;obtain⟨rfl,rfl,rfl,ha,hb,hc,hz⟩:=PV hc;refine Kr (x':=.agg [.sl 47 kR none a,.sl 54 kZ none b,.sl 50 kL none c]) (y':=.agg [.sl 47 kR none a,.sl 54 kZ none b,.sl 50 kL none c]) (fun _ _ h=>S8 h) (fun _ _ h=>S8 h) ?_;refine ah iY lS0_ok (a.length+b.length+c.length+1) 2 ?_
 (rw[lSa_top];(conv=>zeta);rw[jc,jc,jc])
 exact sa_0 _ _ _ _ _ _ _ _ a b c (by omega) (by omega) hb hz hc ha a.length 0 _ (by omega) (by omega)
theorem Ks (s:List UInt8) (hc:true=true):af eE 11 [.str s] (tbV (qT s) (qU s) (qV s) (Gj s) (Gl s) (Gm s) (qp s) (rU s)):=tbP_ev s
theorem lSv_ok:bq eE lSv:=by
 unfold lSv;refine bq.cons (fun args r h=>?_) bq.nil;all_goals (revert h;intro h;first|unfold TT at h)
 all_goals (split at h;rotate_left; · cases h)
 all_goals (simp only[Option.some.injEq,Prod.mk.injEq] at h;obtain⟨hc,rfl⟩:=h)
 ·exact Ks _ rfl
set_option maxRecDepth 100000 in
theorem S9 (hc:true=true):af eE 8 [] (.bool true):=by
 refine ah iY lSv_ok 300 4 ?_;kernel_rfl
def Few (t:qP):Prop:=(∀z∈t.zs,(I6 (ax z 1)).length≤256)∧ ∀z∈t.we,(I6 (ax z 0)).length≤256
theorem VU {x:V} {e:Nat} {sh:List Kd} {o:Option Nat} {ys:List V} (h:ys.length≤256):(I6 (ax (aset x 1 (.sl e sh o ys)) 1)).length≤256:=by
 show(I6 ((x.cells.set 1 (.sl e sh o ys)).getD 1 .any)).length≤256;rcases Nat.lt_or_ge 1 x.cells.length with hl|hl
 ·rw[List.getD_eq_getElem?_getD,List.getElem?_set_self hl]
  exact h
 ·rw[List.getD_eq_getElem?_getD,List.getElem?_eq_none (by simpa using hl)]
  show([]:List V).length≤256;simp
theorem Few.step {t:qP} (hg:Good t) (h:Few t) {ln:Int} {s:List UInt8} (he:t.err s=0):Few (t.step ln s):=by
 obtain⟨hk,_,_⟩:=Xo he;rcases hk with kd|⟨kd,ho,er⟩|⟨ho,kd,er⟩|⟨ho,kd,er⟩|⟨ho,kd,er⟩
 ·rw[jW kd];exact h
 ·rw[jW kd]
  have hy:=(ni er).2;rw[aD] at hy;have hye:=hg.ye;refine⟨fun z hz=>?_,fun z hz=>?_⟩
  ·have hz:z∈pE t.zs t.yz (bX s):=hz
   unfold pE pY at hz;rcases List.mem_or_eq_of_mem_set hz with h1|rfl
   ·exact h.1 z h1
   ·exact VU (by unfold aZ;rw[List.length_append,List.length_singleton];omega)
  ·have hz:z∈rZ t.we t.ye ln:=hz
   unfold rZ pY at hz;rcases List.mem_or_eq_of_mem_set hz with h1|rfl
   ·exact h.2 z h1
   ·show(aZ t.ye [.int .i64 ln]).length≤256
    unfold aZ;rw[List.length_append,List.length_singleton];omega
 ·rw[jW kd];exact h
 ·rw[jW kd]
  refine⟨fun z hz=>?_,fun z hz=>?_⟩
  ·have hz:z∈sj t.zs (tl1 (bX s)):=hz
   unfold sj aZ at hz;rw[List.mem_append,List.mem_singleton] at hz;rcases hz with hz|rfl
   ·exact h.1 z hz
   ·show([z8 (tl1 (tl1 (bX s)))]:List V).length≤256
    simp
  ·have hz:z∈yo t.we ln:=hz
   unfold yo aZ at hz;rw[List.mem_append,List.mem_singleton] at hz;rcases hz with hz|rfl
   ·exact h.2 z hz
   ·show([V.int .i64 ln]:List V).length≤256
    simp
 ·rw[jW kd];exact h
theorem EZ: ∀(xs:List V) (ln:Int) (t:qP),Good t→Few t→Few (fQ xs ln t).1
 |[],ln,t,_,h=>h
 |x::xs,ln,t,hg,h=>by
  unfold fQ;split
  ·exact EZ xs (ln+1) _ (hg.step ‹_›) (h.step hg ‹_›)
  ·exact h
theorem Yw:Few r0:=⟨fun z (hz:z∈([]:List V))=>(nomatch hz),fun z (hz:z∈([]:List V))=>(nomatch hz)⟩
theorem VW (s:List UInt8):sqT (qT s) (qU s) (qV s) (qT s) (qU s) (qV s)=true∧sqW (Gj s) (Gl s) (Gm s) (Gj s) (Gl s) (Gm s)=true:=by
 have hg:Good (fU s).1:=Bi _ _ _ ru;have hf:Few (fU s).1:=EZ _ _ _ ru Yw;obtain⟨h1,h2,h3,h4,h5,h6,h7,h8,h9,h10⟩:=hg;unfold qT qU qV Gj Gl Gm;by_cases he:rU s=0
 ·rw[if_pos he,if_pos he,if_pos he,if_pos he,if_pos he,if_pos he]
  unfold Jg Jh Ji Lv Lx LA;exact⟨Eu ⟨rfl,rfl,rfl,by omega,by omega,by omega,fun z hz=>by have:=hf.1 z hz;omega⟩,Eu ⟨rfl,rfl,rfl,by omega,by omega,by omega,fun z hz=>by have:=hf.2 z hz;omega⟩⟩
 ·rw[if_neg he,if_neg he,if_neg he,if_neg he,if_neg he,if_neg he]
  exact⟨Eu ⟨rfl,rfl,rfl,by simp,by simp,by simp,fun z hz=>by cases hz⟩,Eu ⟨rfl,rfl,rfl,by simp,by simp,by simp,fun z hz=>by cases hz⟩⟩
end Nt.Ev.YtplklcejbmfgdaaGreatDoor.Rr
