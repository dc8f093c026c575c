/-
  ReadLaw: equations of functions, as the evaluator prints them. The reader of sources: equal tables are the same; the statement that tells. ReadTells: the contract.
-/
import Derived.Test.YtpbgegnlkdfjgaaGreatDoorMXM
set_option linter.unusedVariables false
set_option linter.unusedSimpArgs false
set_option linter.unusedSectionVars false
namespace Nt.Ev.YtpbgegnlkdfjgaaGreatDoor.Rr
set_option maxRecDepth 100000
open Go Nt.Num Go.Proofs.YtpbgegnlkdfjgaaGreatDoor
variable [uT]
open Nt.Ev.YtpbgegnlkdfjgaaGreatDoor
open Nt.Civil
open Nt.Fld
open Nt.Ev.YtpbgegnlkdfjgaaGreatDoor.Lk
noncomputable def sqZ (n:List UInt8) (es:List V) (m:List UInt8) (fs:List V):Bool:=@decide (n=m∧es=fs∧es.length≤1000000) (Classical.propDecidable _)
noncomputable def sqI (es fs:List V):Bool:=@decide (es=fs∧es.length≤1000000) (Classical.propDecidable _)
noncomputable def sqT (a b c a2 b2 c2:List V):Bool:=@decide (a=a2∧b=b2∧c=c2∧a.length≤1000000∧b.length≤1000000∧c.length≤1000000∧ ∀z∈b,(Q6 (aD z 1)).length≤1000000) (Classical.propDecidable _)
noncomputable def sqW (a b c a2 b2 c2:List V):Bool:=@decide (a=a2∧b=b2∧c=c2∧a.length≤1000000∧b.length≤1000000∧c.length≤1000000∧ ∀z∈b,(Q6 (aD z 0)).length≤1000000) (Classical.propDecidable _)
noncomputable def ksT (k0 k1 k2 q0 q1 q2:List Kd):Bool:=(Kd.tO kR k0&&Kd.tO kZ k1)&&(Kd.tO kL k2&&(Kd.tO kR q0&&(Kd.tO kZ q1&&Kd.tO kL q2)))
noncomputable def ksW (k0 k1 k2 q0 q1 q2:List Kd):Bool:=(Kd.tO kI k0&&Kd.tO kW k1)&&(Kd.tO kI k2&&(Kd.tO kI q0&&(Kd.tO kW q1&&Kd.tO kI q2)))
noncomputable def VM:aL:=fun a=>match a with|[.str s]=>some (true,tbV (E7 s) (E8 s) (E9 s) (Fa s) (Fb s) (Fe s) (YD s) (NN s))|_=>none
noncomputable def lSzS:aL:=fun a=>match a with|[.agg [.str n,.sl e1 k1 o1 es],.agg [.str m,.sl e2 k2 o2 fs]]=>some (bif Kd.tO kE k1&&Kd.tO kE k2 then sqZ n es m fs else false,.bool true)|_=>none
noncomputable def lInS:aL:=fun a=>match a with|[.sl e1 k1 o1 es,.sl e2 k2 o2 fs]=>some (bif Kd.tO kI k1&&Kd.tO kI k2 then sqI es fs else false,.bool true)|_=>none
noncomputable def lSaS:aL:=fun a=>match a with|[.agg [.sl e0 k0 o0 a,.sl e1 k1 o1 b,.sl e2 k2 o2 c],.agg [.sl f0 q0 p0 a2,.sl f1 q1 p1 b2,.sl f2 q2 p2 c2]]=>some (bif ksT k0 k1 k2 q0 q1 q2 then sqT a b c a2 b2 c2 else false,.bool true)|_=>none
noncomputable def lSwS:aL:=fun a=>match a with|[.agg [.sl e0 k0 o0 a,.sl e1 k1 o1 b,.sl e2 k2 o2 c],.agg [.sl f0 q0 p0 a2,.sl f1 q1 p1 b2,.sl f2 q2 p2 c2]]=>some (bif ksW k0 k1 k2 q0 q1 q2 then sqW a b c a2 b2 c2 else false,.bool true)|_=>none
noncomputable def lLvS:aL:=fun a=>match a with|[]=>some (true,.bool true)|_=>none
noncomputable def lSe:List (Nat×aL):=[]
noncomputable def lS0:List (Nat×aL):=(14,lSzS)::(15,lInS)::[]
noncomputable def lSv:List (Nat×aL):=(6,VM)::(7,VM)::[]
noncomputable def lS1:List (Nat×aL):=(6,VM)::(7,VM)::(8,lSaS)::(9,lSwS)::[]
noncomputable def lS2:List (Nat×aL):=(5,lLvS)::lS1
noncomputable def Mi (F:Nat) (ns:List Nat) (n:Nat) (lD:List UInt8) (lF:List V) (nW:List UInt8) (nX:List V) (x4:Bool) (Yu NU:Int) (mI:List UInt8) (kC:List V) (eX:List UInt8) (dV:List V) (K:V→Option V):Option V:=
 dN eE lSe F 2 14 [1,1,0,1,0] ns K n (iY 38 [(0,V.agg [V.str lD,V.sl 50 kE none lF]),(1,V.agg [V.str nW,V.sl 50 kE none nX]),(2,V.box 2 0),(3,V.box 3 0),(4,V.bool x4),(22,V.int .i64 Yu),(23,V.int .i64 NU)] [(3,[V.str mI,V.sl 50 kE none kC]),(2,[V.str eX,V.sl 50 kE none dV])])
theorem lSz_top (F:Nat) (n:List UInt8) (es:List V) (K:V→Option V):
 bD eE (bB eE lSe F 2) F 14 [V.agg [V.str n,V.sl 50 kE none es],V.agg [V.str n,V.sl 50 kE none es]] K=
 let A:=K (V.bool false);sel (aB (seq n n)) A (sel (aB (ieq (ax es) (ax es))) A (Mi F [] F n es n es false (ax es) 0 n es n es K)):=by kernel_rfl
theorem EP (F n:Nat) (lD:List UInt8) (lF:List V) (nW:List UInt8) (nX:List V) (x4:Bool) (Yu NU:Int) (mI:List UInt8) (kC:List V) (eX:List UInt8) (dV:List V) (K:V→Option V):
 Mi F [] (n+1) lD lF nW nX x4 Yu NU mI kC eX dV K=
 let A:=aY dV NU;let B:=aY kC NU;sel (aK NU Yu) (sel (av (ak 0 NU) (aK NU (ax dV))) (sel (av (ak 0 NU) (aK NU (ax kC))) (sel (aB (av (ieq (asInt (aD A 0)) (asInt (aD B 0))) (av (ieq (asInt (aD A 1)) (asInt (aD B 1))) (av (ieq (asInt (aD A 2)) (asInt (aD B 2))) (av (seq (aT (aD A 3)) (aT (aD B 3))) (av (seq (aT (aD A 4)) (aT (aD B 4))) (av (beq (asBool (aD A 5)) (asBool (aD B 5))) (av (ieq (asInt (aD A 6)) (asInt (aD B 6))) (av (ieq (asInt (aD A 7)) (asInt (aD B 7))) (av (av (ieq (asInt (aD A 8)) (asInt (aD B 8))) (av (ieq (asInt (aD A 9)) (asInt (aD B 9))) (ieq (asInt (aD A 10)) (asInt (aD B 10))))) (av (ieq (asInt (aD A 11)) (asInt (aD B 11))) (ieq (asInt (aD A 12)) (asInt (aD B 12)))))))))))))) (K (V.bool false)) (Mi F [] n lD lF nW nX x4 Yu (bP .i64 NU 1) mI kC eX dV K)) none) none) (K (V.bool true)):=by kernel_rfl
noncomputable def Mj (F:Nat) (ns:List Nat) (n:Nat) (x0 x1:List V) (x4:Bool) (tT FX:Int) (K:V→Option V):Option V:=
 dN eE lSe F 2 15 [1,1,0,1,0] ns K n (iY 26 [(0,V.sl 3 [Kd.int .i64] none x0),(1,V.sl 3 [Kd.int .i64] none x1),(4,V.bool x4),(12,V.int .i64 tT),(13,V.int .i64 FX)] [])
theorem lIn_top (F:Nat) (es:List V) (K:V→Option V):
 bD eE (bB eE lSe F 2) F 15 [V.sl 3 [Kd.int .i64] none es,V.sl 3 [Kd.int .i64] none es] K=
 sel (aB (ieq (ax es) (ax es))) (K (V.bool false)) (Mj F [] F es es false (ax es) 0 K):=by kernel_rfl
theorem EQ (F n:Nat) (x0 x1:List V) (x4:Bool) (tT FX:Int) (K:V→Option V):
 Mj F [] (n+1) x0 x1 x4 tT FX K=
 sel (aK FX tT) (sel (av (ak 0 FX) (aK FX (ax x0))) (sel (av (ak 0 FX) (aK FX (ax x1))) (sel (aB (ieq (asInt (aD (aY x0 FX) 0)) (asInt (aD (aY x1 FX) 0)))) (K (V.bool false)) (Mj F [] n x0 x1 x4 tT (bP .i64 FX 1) K)) none) none) (K (V.bool true)):=by kernel_rfl
noncomputable def Mk (F:Nat) (ns:List Nat) (n:Nat) (lD lF nR nW nX sQ:List V) (x4:Bool) (AX FY:Int) (mI kC pR eX dV fU:List V) (K:V→Option V):Option V:=
 dN eE lS0 F 2 8 [1,1,0,1,0] ns K n (iY 88 [(0,V.agg [V.sl 61 kR none lD,V.sl 42 kZ none lF,V.sl 63 kL none nR]),(1,V.agg [V.sl 61 kR none nW,V.sl 42 kZ none nX,V.sl 63 kL none sQ]),(2,V.box 2 0),(3,V.box 3 0),(4,V.bool x4),(6,V.tup []),(7,V.tup []),(35,V.int .i64 AX),(36,V.int .i64 FY),(53,V.tup []),(54,V.tup []),(71,V.tup []),(72,V.tup [])] [(3,[V.sl 61 kR none mI,V.sl 42 kZ none kC,V.sl 63 kL none pR]),(2,[V.sl 61 kR none eX,V.sl 42 kZ none dV,V.sl 63 kL none fU])])
noncomputable def Ml (F:Nat) (ns:List Nat) (n:Nat) (lD lF nR nW nX sQ:List V) (x4:Bool) (AX FY YE x54:Int) (mI kC pR eX dV fU:List V) (K:V→Option V):Option V:=
 dN eE lS0 F 2 8 [1,1,1,0,1,0] ns K n (iY 88 [(0,V.agg [V.sl 61 kR none lD,V.sl 42 kZ none lF,V.sl 63 kL none nR]),(1,V.agg [V.sl 61 kR none nW,V.sl 42 kZ none nX,V.sl 63 kL none sQ]),(2,V.box 2 0),(3,V.box 3 0),(4,V.bool x4),(7,V.tup []),(35,V.int .i64 AX),(36,V.int .i64 FY),(53,V.int .i64 YE),(54,V.int .i64 x54),(71,V.tup []),(72,V.tup [])] [(3,[V.sl 61 kR none mI,V.sl 42 kZ none kC,V.sl 63 kL none pR]),(2,[V.sl 61 kR none eX,V.sl 42 kZ none dV,V.sl 63 kL none fU])])
noncomputable def Mm (F:Nat) (ns:List Nat) (n:Nat) (lD lF nR nW nX sQ:List V) (x4:Bool) (AX FY YE x54 x71 Vx:Int) (mI kC pR eX dV fU:List V) (K:V→Option V):Option V:=
 dN eE lS0 F 2 8 [1,1,1,1,0,1,0] ns K n (iY 88 [(0,V.agg [V.sl 61 kR none lD,V.sl 42 kZ none lF,V.sl 63 kL none nR]),(1,V.agg [V.sl 61 kR none nW,V.sl 42 kZ none nX,V.sl 63 kL none sQ]),(2,V.box 2 0),(3,V.box 3 0),(4,V.bool x4),(35,V.int .i64 AX),(36,V.int .i64 FY),(53,V.int .i64 YE),(54,V.int .i64 x54),(71,V.int .i64 x71),(72,V.int .i64 Vx)] [(3,[V.sl 61 kR none mI,V.sl 42 kZ none kC,V.sl 63 kL none pR]),(2,[V.sl 61 kR none eX,V.sl 42 kZ none dV,V.sl 63 kL none fU])])
theorem lSa_top (F:Nat) (a b c:List V) (K:V→Option V):
 bD eE (bB eE lS0 F 2) F 8 [V.agg [V.sl 61 kR none a,V.sl 42 kZ none b,V.sl 63 kL none c],V.agg [V.sl 61 kR none a,V.sl 42 kZ none b,V.sl 63 kL none c]] K=
 let A:=K (V.bool false);sel (aB (ieq (ax a) (ax a))) A (sel (aB (ieq (ax b) (ax b))) A (sel (aB (ieq (ax c) (ax c))) A (Mk F [] F a b c a b c false (ax a) 0 a b c a b c K))):=by kernel_rfl
theorem ER (F n:Nat) (lD lF nR nW nX sQ:List V) (x4:Bool) (AX FY:Int) (mI kC pR eX dV fU:List V) (K:V→Option V):
 Mk F [] (n+1) lD lF nR nW nX sQ x4 AX FY mI kC pR eX dV fU K=
 let A:=aY eX FY;let B:=aY mI FY;sel (aK FY AX) (sel (av (ak 0 FY) (aK FY (ax eX))) (sel (av (ak 0 FY) (aK FY (ax mI))) (sel (aB (av (seq (aT (aD A 0)) (aT (aD B 0))) (av (ieq (asInt (aD A 1)) (asInt (aD B 1))) (av (ieq (asInt (aD A 2)) (asInt (aD B 2))) (av (ieq (asInt (aD A 3)) (asInt (aD B 3))) (av (av (ieq (asInt (aD A 4)) (asInt (aD B 4))) (av (ieq (asInt (aD A 5)) (asInt (aD B 5))) (ieq (asInt (aD A 6)) (asInt (aD B 6))))) (av (av (ieq (asInt (aD A 7)) (asInt (aD B 7))) (ieq (asInt (aD A 8)) (asInt (aD B 8)))) (av (ieq (asInt (aD A 9)) (asInt (aD B 9))) (seq (aT (aD A 10)) (aT (aD B 10))))))))))) (K (V.bool false)) (Mk F [] n lD lF nR nW nX sQ x4 AX (bP .i64 FY 1) mI kC pR eX dV fU K)) none) none) (Ml F [] F lD lF nR nW nX sQ x4 AX FY (ax fU) 0 mI kC pR eX dV fU K):=by kernel_rfl
theorem ES (F n:Nat) (lD lF nR nW nX sQ:List V) (x4:Bool) (AX FY YE x54:Int) (mI kC pR eX dV fU:List V) (K:V→Option V):
 Ml F [] (n+1) lD lF nR nW nX sQ x4 AX FY YE x54 mI kC pR eX dV fU K=
 sel (aK x54 YE) (sel (av (ak 0 x54) (aK x54 (ax fU))) (sel (av (ak 0 x54) (aK x54 (ax pR))) (sel (aB (av (seq (aT (aD (aY fU x54) 0)) (aT (aD (aY pR x54) 0))) (seq (aT (aD (aY fU x54) 1)) (aT (aD (aY pR x54) 1))))) (K (V.bool false)) (Ml F [] n lD lF nR nW nX sQ x4 AX FY YE (bP .i64 x54 1) mI kC pR eX dV fU K)) none) none) (Mm F [] F lD lF nR nW nX sQ x4 AX FY YE x54 (ax dV) 0 mI kC pR eX dV fU K):=by kernel_rfl
theorem ET (F n:Nat) (lD lF nR nW nX sQ:List V) (x4:Bool) (AX FY YE x54 x71 Vx:Int) (mI kC pR eX dV fU:List V) (K:V→Option V):
 Mm F [] (n+1) lD lF nR nW nX sQ x4 AX FY YE x54 x71 Vx mI kC pR eX dV fU K=
 sel (aK Vx x71) (sel (av (ak 0 Vx) (aK Vx (ax dV))) (sel (av (ak 0 Vx) (aK Vx (ax kC))) (sel (sqZ (aT (aD (aY dV Vx) 0)) (Q6 (aD (aY dV Vx) 1)) (aT (aD (aY kC Vx) 0)) (Q6 (aD (aY kC Vx) 1))) (Mm F [] n lD lF nR nW nX sQ x4 AX FY YE x54 x71 (bP .i64 Vx 1) mI kC pR eX dV fU K) none) none) none) (K (V.bool true)):=by kernel_rfl
noncomputable def Mq (F:Nat) (ns:List Nat) (n:Nat) (lD lF nR nW nX sQ:List V) (x4:Bool) (x31 x32:Int) (mI kC pR eX dV fU:List V) (K:V→Option V):Option V:=
 dN eE lS0 F 2 9 [1,1,0,1,0] ns K n (iY 48 [(0,V.agg [V.sl 3 [Kd.int .i64] none lD,V.sl 29 kW none lF,V.sl 3 [Kd.int .i64] none nR]),(1,V.agg [V.sl 3 [Kd.int .i64] none nW,V.sl 29 kW none nX,V.sl 3 [Kd.int .i64] none sQ]),(2,V.box 2 0),(3,V.box 3 0),(4,V.bool x4),(31,V.int .i64 x31),(32,V.int .i64 x32)] [(3,[V.sl 3 [Kd.int .i64] none mI,V.sl 29 kW none kC,V.sl 3 [Kd.int .i64] none pR]),(2,[V.sl 3 [Kd.int .i64] none eX,V.sl 29 kW none dV,V.sl 3 [Kd.int .i64] none fU])])
theorem lSw_top (F:Nat) (a b c:List V) (K:V→Option V):
 bD eE (bB eE lS0 F 2) F 9 [V.agg [V.sl 3 [Kd.int .i64] none a,V.sl 29 kW none b,V.sl 3 [Kd.int .i64] none c],V.agg [V.sl 3 [Kd.int .i64] none a,V.sl 29 kW none b,V.sl 3 [Kd.int .i64] none c]] K=
 sel (sqI a a) (sel (sqI c c) (sel (aB (ieq (ax b) (ax b))) (K (V.bool false)) (Mq F [] F a b c a b c false (ax b) 0 a b c a b c K)) none) none:=by kernel_rfl
theorem EU (F n:Nat) (lD lF nR nW nX sQ:List V) (x4:Bool) (x31 x32:Int) (mI kC pR eX dV fU:List V) (K:V→Option V):
 Mq F [] (n+1) lD lF nR nW nX sQ x4 x31 x32 mI kC pR eX dV fU K=
 sel (aK x32 x31) (sel (av (ak 0 x32) (aK x32 (ax dV))) (sel (av (ak 0 x32) (aK x32 (ax kC))) (sel (sqI (Q6 (aD (aY dV x32) 0)) (Q6 (aD (aY kC x32) 0))) (Mq F [] n lD lF nR nW nX sQ x4 x31 (bP .i64 x32 1) mI kC pR eX dV fU K) none) none) none) (K (V.bool true)):=by kernel_rfl
theorem ach (F:Nat) (s:List UInt8) (K:V→Option V):
 bD eE (bB eE lS2 F 3) F 3 [V.str s] K=
 let A:=K (V.bool true);sel (aB (ak (ah s) 8000)) A (sel (av (ieq (YD s) (YD s)) (ieq (NN s) (NN s))) (sel (sqT (E7 s) (E8 s) (E9 s) (E7 s) (E8 s) (E9 s)) (sel (sqW (Fa s) (Fb s) (Fe s) (Fa s) (Fb s) (Fe s)) A none) none) (K (V.bool false))):=by kernel_rfl
open Go.RowKit Nt
theorem aaw:bF eE lSe:=bF.nil
theorem jd (a:Int):ieq a a=true:=aR rfl
theorem Cc (a:List UInt8):seq a a=true:=by rw[dH]
theorem DI (a:Bool):beq a a=true:=by cases a<;>rfl
theorem pV:av true true=true:=rfl
theorem C5 {G:aQ} {e1 e2:Nat} {o1 o2:Option Nat} {sh:List Kd} {xs:List V} {v:Value} (h:aP G (.sl e1 sh o1 xs) v):aP G (.sl e2 sh o2 xs) v:=by
 unfold aP at h⊢;exact h
theorem FP {G:aQ} {e0 e1 e2 t0 t1 t2:Nat} {o0 o1 o2 p0 p1 p2:Option Nat} {k0 k1 k2:List Kd} {a b c:List V} {v:Value} (h:aP G (.agg [.sl e0 k0 o0 a,.sl e1 k1 o1 b,.sl e2 k2 o2 c]) v):aP G (.agg [.sl t0 k0 p0 a,.sl t1 k1 p1 b,.sl t2 k2 p2 c]) v:=by
 unfold aP at h;obtain⟨l,rfl,h⟩:=h;unfold jB at h;obtain⟨v1,l1,rfl,h1,h⟩:=h;unfold jB at h;obtain⟨v2,l2,rfl,h2,h⟩:=h;unfold jB at h;obtain⟨v3,l3,rfl,h3,h⟩:=h;unfold aP;refine⟨_,rfl,?_⟩;unfold jB;refine⟨_,_,rfl,C5 h1,?_⟩;unfold jB;refine⟨_,_,rfl,C5 h2,?_⟩;unfold jB;exact⟨_,_,rfl,C5 h3,h⟩
theorem rep_z {G:aQ} {e t:Nat} {o p:Option Nat} {k:List Kd} {n:List UInt8} {a:List V} {v:Value} (h:aP G (.agg [.str n,.sl e k o a]) v):aP G (.agg [.str n,.sl t k p a]) v:=by
 unfold aP at h;obtain⟨l,rfl,h⟩:=h;unfold jB at h;obtain⟨v1,l1,rfl,h1,h⟩:=h;unfold jB at h;obtain⟨v2,l2,rfl,h2,h⟩:=h;unfold aP;refine⟨_,rfl,?_⟩;unfold jB;refine⟨_,_,rfl,h1,?_⟩;unfold jB;exact⟨_,_,rfl,C5 h2,h⟩
theorem FQ {E:Env} {f:Nat} {x y x' y' r:V} (h1: ∀G v,aP G x v→aP G x' v) (h2: ∀G v,aP G y v→aP G y' v) (c:af E f [x',y'] r):af E f [x,y] r:=by
 intro G w vs hG hg hp;obtain⟨v1,t1,rfl,q1,hp⟩:=hp.cons_inv;obtain⟨v2,t2,rfl,q2,hp⟩:=hp.cons_inv;exact c G w _ hG hg (.cons (h1 _ _ q1) (.cons (h2 _ _ q2) hp))
theorem Mr {p:Prop} (h: @decide p (Classical.propDecidable p)=true):p:=@of_decide_eq_true p (Classical.propDecidable p) h
theorem C6 {p:Prop} (h:p): @decide p (Classical.propDecidable p)=true:=@decide_eq_true p (Classical.propDecidable p) h
theorem H8 {es:List V} (h:es.length≤1000000):sqI es es=true:=C6 ⟨rfl,h⟩
theorem aci {n:List UInt8} {es:List V} (h:es.length≤1000000):sqZ n es n es=true:=C6 ⟨rfl,rfl,h⟩
theorem sz_loop (F:Nat) (n1 n2 n3 n4:List UInt8) (e1 e2 es:List V) (hx:es.length≤1000000): ∀(j i n:Nat),i+j=es.length→j<n→
  Mi F [] n n1 e1 n2 e2 false (ax es) (i:Int) n3 es n4 es some=some (.bool true):=by
 intro j;induction j with
 |zero=>
  intro i n hi hn;obtain⟨n,rfl⟩: ∃k,n=k+1:=⟨n-1,by omega⟩
  (rw[EP];(conv=>zeta);rw[aG (bu (by rw[aI];omega))])
 |succ j ih=>
  intro i n hi hn;obtain⟨n,rfl⟩: ∃k,n=k+1:=⟨n-1,by omega⟩
  have b:av (ak 0 (i:Int)) (aK (i:Int) (ax es))=true:=by rw[aC,aA,aU,aI];omega
  (rw[EP];(conv=>zeta);rw[aj (bq (by rw[aI];omega)),aj b,aj b])
  simp only[jd,Cc,DI,pV,dm,bZ];rw[dh (by omega),show(i:Int)+1=((i+1:Nat):Int) by omega];exact ih (i+1) n (by omega) (by omega)
theorem lSzS_ok (n:List UInt8) (e1:Nat) (k1:List Kd) (o1:Option Nat) (es:List V) (m:List UInt8) (e2:Nat) (k2:List Kd) (o2:Option Nat) (fs:List V) (hc:(bif Kd.tO kE k1&&Kd.tO kE k2 then sqZ n es m fs else false)=true):af eE 14 [.agg [.str n,.sl e1 k1 o1 es],.agg [.str m,.sl e2 k2 o2 fs]] (.bool true):=by
 obtain⟨h,hc⟩:=gP hc;rw[Bool.and_eq_true] at h;obtain rfl:=Kd.bL _ _ h.1;obtain rfl:=Kd.bL _ _ h.2;obtain⟨rfl,rfl,hl⟩:=Mr hc;refine FQ (x':=.agg [.str n,.sl 50 kE none es]) (y':=.agg [.str n,.sl 50 kE none es]) (fun _ _ h=>rep_z h) (fun _ _ h=>rep_z h) ?_;refine ai d9 aaw (es.length+1) 2 ?_
 (rw[lSz_top];(conv=>zeta);rw[Cc,jd])
 exact sz_loop (es.length+1) n n n n es es es hl es.length 0 (es.length+1) (by omega) (by omega)
theorem in_loop (F:Nat) (es:List V) (hx:es.length≤1000000): ∀(j i n:Nat),i+j=es.length→j<n→
  Mj F [] n es es false (ax es) (i:Int) some=some (.bool true):=by
 intro j;induction j with
 |zero=>
  intro i n hi hn;obtain⟨n,rfl⟩: ∃k,n=k+1:=⟨n-1,by omega⟩
  rw[EQ,aG (bu (by rw[aI];omega))]
 |succ j ih=>
  intro i n hi hn;obtain⟨n,rfl⟩: ∃k,n=k+1:=⟨n-1,by omega⟩
  have b:av (ak 0 (i:Int)) (aK (i:Int) (ax es))=true:=by rw[aC,aA,aU,aI];omega
  rw[EQ,aj (bq (by rw[aI];omega)),aj b,aj b];simp only[jd,dm,bZ];rw[dh (by omega),show(i:Int)+1=((i+1:Nat):Int) by omega];exact ih (i+1) n (by omega) (by omega)
theorem lInS_ok (e1:Nat) (k1:List Kd) (o1:Option Nat) (es:List V) (e2:Nat) (k2:List Kd) (o2:Option Nat) (fs:List V) (hc:(bif Kd.tO kI k1&&Kd.tO kI k2 then sqI es fs else false)=true):af eE 15 [.sl e1 k1 o1 es,.sl e2 k2 o2 fs] (.bool true):=by
 obtain⟨h,hc⟩:=gP hc;rw[Bool.and_eq_true] at h;obtain rfl:=Kd.bL _ _ h.1;obtain rfl:=Kd.bL _ _ h.2;obtain⟨rfl,hl⟩:=Mr hc;refine FQ (x':=.sl 3 kI none es) (y':=.sl 3 kI none es) (fun _ _ h=>C5 h) (fun _ _ h=>C5 h) ?_;refine ai d9 aaw (es.length+1) 2 ?_;rw[lIn_top,jd];exact in_loop (es.length+1) es hl es.length 0 (es.length+1) (by omega) (by omega)
theorem aax:bF eE lS0:=by
 unfold lS0;refine bF.cons (fun args r h=>?_) (bF.cons (fun args r h=>?_) bF.nil);all_goals (revert h;intro h;first|unfold lSzS at h|unfold lInS at h)
 all_goals (split at h;rotate_left; · cases h)
 all_goals (simp only[Option.some.injEq,Prod.mk.injEq] at h;obtain⟨hc,rfl⟩:=h)
 ·exact lSzS_ok _ _ _ _ _ _ _ _ _ _ hc
 ·exact lInS_ok _ _ _ _ _ _ _ _ hc
theorem sw_loop (F:Nat) (a1 b1 c1 a2 b2 c2 a3 c3 a4 c4 es:List V) (hx:es.length≤1000000) (hz: ∀z∈es,(Q6 (aD z 0)).length≤1000000): ∀(j i n:Nat),i+j=es.length→j<n→
  Mq F [] n a1 b1 c1 a2 b2 c2 false (ax es) (i:Int) a3 es c3 a4 es c4 some=some (.bool true):=by
 intro j;induction j with
 |zero=>
  intro i n hi hn;obtain⟨n,rfl⟩: ∃k,n=k+1:=⟨n-1,by omega⟩
  rw[EU,aG (bu (by rw[aI];omega))]
 |succ j ih=>
  intro i n hi hn;obtain⟨n,rfl⟩: ∃k,n=k+1:=⟨n-1,by omega⟩
  have b:av (ak 0 (i:Int)) (aK (i:Int) (ax es))=true:=by rw[aC,aA,aU,aI];omega
  rw[EU,aj (bq (by rw[aI];omega)),aj b,aj b,aj (H8 (hz _ (get_mem (by omega)))),dh (by omega),show(i:Int)+1=((i+1:Nat):Int) by omega];exact ih (i+1) n (by omega) (by omega)
theorem lSwS_ok (e0:Nat) (k0:List Kd) (o0:Option Nat) (a:List V) (e1:Nat) (k1:List Kd) (o1:Option Nat) (b:List V) (e2:Nat) (k2:List Kd) (o2:Option Nat) (c:List V) (f0:Nat) (q0:List Kd) (p0:Option Nat) (a2:List V) (f1:Nat) (q1:List Kd) (p1:Option Nat) (b2:List V) (f2:Nat) (q2:List Kd) (p2:Option Nat) (c2:List V) (hc:(bif ksW k0 k1 k2 q0 q1 q2 then sqW a b c a2 b2 c2 else false)=true):af eE 9 [.agg [.sl e0 k0 o0 a,.sl e1 k1 o1 b,.sl e2 k2 o2 c],.agg [.sl f0 q0 p0 a2,.sl f1 q1 p1 b2,.sl f2 q2 p2 c2]] (.bool true):=by
 obtain⟨h,hc⟩:=gP hc;unfold ksW at h;simp only[Bool.and_eq_true] at h;obtain⟨⟨h1,h2⟩,h3,h4,h5,h6⟩:=h;obtain rfl:=Kd.bL _ _ h1;obtain rfl:=Kd.bL _ _ h2;obtain rfl:=Kd.bL _ _ h3;obtain rfl:=Kd.bL _ _ h4;obtain rfl:=Kd.bL _ _ h5;obtain rfl:=Kd.bL _ _ h6;obtain⟨rfl,rfl,rfl,ha,hb,hc,hz⟩:=Mr hc;refine FQ (x':=.agg [.sl 3 kI none a,.sl 29 kW none b,.sl 3 kI none c]) (y':=.agg [.sl 3 kI none a,.sl 29 kW none b,.sl 3 kI none c]) (fun _ _ h=>FP h) (fun _ _ h=>FP h) ?_;refine ai d9 aax (b.length+1) 2 ?_;rw[lSw_top,aj (H8 ha),aj (H8 hc),jd];exact sw_loop (b.length+1) a b c a b c a c a c b hb hz b.length 0 (b.length+1) (by omega) (by omega)
theorem sa_2 (F:Nat) (x1 x2 x3 x4 x5 x6:List V) (x7:Bool) (y1 y2 y3 y4:Int) (a3 c3 a4 c4 es:List V) (hx:es.length≤1000000) (hz: ∀z∈es,(Q6 (aD z 1)).length≤1000000): ∀(j i n:Nat),i+j=es.length→j<n→
  Mm F [] n x1 x2 x3 x4 x5 x6 x7 y1 y2 y3 y4 (ax es) (i:Int) a3 es c3 a4 es c4 some=some (.bool true):=by
 intro j;induction j with
 |zero=>
  intro i n hi hn;obtain⟨n,rfl⟩: ∃k,n=k+1:=⟨n-1,by omega⟩
  rw[ET,aG (bu (by rw[aI];omega))]
 |succ j ih=>
  intro i n hi hn;obtain⟨n,rfl⟩: ∃k,n=k+1:=⟨n-1,by omega⟩
  have b:av (ak 0 (i:Int)) (aK (i:Int) (ax es))=true:=by rw[aC,aA,aU,aI];omega
  rw[ET,aj (bq (by rw[aI];omega)),aj b,aj b,aj (aci (hz _ (get_mem (by omega)))),dh (by omega),show(i:Int)+1=((i+1:Nat):Int) by omega];exact ih (i+1) n (by omega) (by omega)
theorem sa_1 (F:Nat) (x1 x2 x3 x4 x5 x6:List V) (x7:Bool) (y1 y2:Int) (a3 a4 es ks:List V) (hF:es.length<F) (hx:es.length≤1000000) (hz: ∀z∈es,(Q6 (aD z 1)).length≤1000000) (hk:ks.length≤1000000): ∀(j i n:Nat),i+j=ks.length→j<n→
  Ml F [] n x1 x2 x3 x4 x5 x6 x7 y1 y2 (ax ks) (i:Int) a3 es ks a4 es ks some=some (.bool true):=by
 intro j;induction j with
 |zero=>
  intro i n hi hn;obtain⟨n,rfl⟩: ∃k,n=k+1:=⟨n-1,by omega⟩
  rw[ES,aG (bu (by rw[aI];omega))];exact sa_2 F _ _ _ _ _ _ _ _ _ _ _ _ _ _ _ es hx hz es.length 0 F (by omega) hF
 |succ j ih=>
  intro i n hi hn;obtain⟨n,rfl⟩: ∃k,n=k+1:=⟨n-1,by omega⟩
  have b:av (ak 0 (i:Int)) (aK (i:Int) (ax ks))=true:=by rw[aC,aA,aU,aI];omega
  rw[ES,aj (bq (by rw[aI];omega)),aj b,aj b];simp only[jd,Cc,DI,pV,dm,bZ];rw[dh (by omega),show(i:Int)+1=((i+1:Nat):Int) by omega];exact ih (i+1) n (by omega) (by omega)
theorem sa_0 (F:Nat) (x1 x2 x3 x4 x5 x6:List V) (x7:Bool) (rs es ks:List V) (hF:es.length<F) (hF2:ks.length<F) (hx:es.length≤1000000) (hz: ∀z∈es,(Q6 (aD z 1)).length≤1000000) (hk:ks.length≤1000000) (hr:rs.length≤1000000): ∀(j i n:Nat),i+j=rs.length→j<n→
  Mk F [] n x1 x2 x3 x4 x5 x6 x7 (ax rs) (i:Int) rs es ks rs es ks some=some (.bool true):=by
 intro j;induction j with
 |zero=>
  intro i n hi hn;obtain⟨n,rfl⟩: ∃k,n=k+1:=⟨n-1,by omega⟩
  (rw[ER];(conv=>zeta);rw[aG (bu (by rw[aI];omega))])
  exact sa_1 F _ _ _ _ _ _ _ _ _ _ _ es ks hF hx hz hk ks.length 0 F (by omega) hF2
 |succ j ih=>
  intro i n hi hn;obtain⟨n,rfl⟩: ∃k,n=k+1:=⟨n-1,by omega⟩
  have b:av (ak 0 (i:Int)) (aK (i:Int) (ax rs))=true:=by rw[aC,aA,aU,aI];omega
  (rw[ER];(conv=>zeta);rw[aj (bq (by rw[aI];omega)),aj b,aj b])
  simp only[jd,Cc,DI,pV,dm,bZ];rw[dh (by omega),show(i:Int)+1=((i+1:Nat):Int) by omega];exact ih (i+1) n (by omega) (by omega)
theorem lSaS_ok (e0:Nat) (k0:List Kd) (o0:Option Nat) (a:List V) (e1:Nat) (k1:List Kd) (o1:Option Nat) (b:List V) (e2:Nat) (k2:List Kd) (o2:Option Nat) (c:List V) (f0:Nat) (q0:List Kd) (p0:Option Nat) (a2:List V) (f1:Nat) (q1:List Kd) (p1:Option Nat) (b2:List V) (f2:Nat) (q2:List Kd) (p2:Option Nat) (c2:List V) (hc:(bif ksT k0 k1 k2 q0 q1 q2 then sqT a b c a2 b2 c2 else false)=true):af eE 8 [.agg [.sl e0 k0 o0 a,.sl e1 k1 o1 b,.sl e2 k2 o2 c],.agg [.sl f0 q0 p0 a2,.sl f1 q1 p1 b2,.sl f2 q2 p2 c2]] (.bool true):=by
 obtain⟨h,hc⟩:=gP hc;unfold ksT at h;simp only[Bool.and_eq_true] at h;obtain⟨⟨h1,h2⟩,h3,h4,h5,h6⟩:=h;obtain rfl:=Kd.bL _ _ h1;obtain rfl:=Kd.bL _ _ h2;obtain rfl:=Kd.bL _ _ h3;obtain rfl:=Kd.bL _ _ h4;obtain rfl:=Kd.bL _ _ h5;obtain rfl:=Kd.bL _ _ h6;obtain⟨rfl,rfl,rfl,ha,hb,hc,hz⟩:=Mr hc;refine FQ (x':=.agg [.sl 61 kR none a,.sl 42 kZ none b,.sl 63 kL none c]) (y':=.agg [.sl 61 kR none a,.sl 42 kZ none b,.sl 63 kL none c]) (fun _ _ h=>FP h) (fun _ _ h=>FP h) ?_;refine ai d9 aax (a.length+b.length+c.length+1) 2 ?_
 (rw[lSa_top];(conv=>zeta);rw[jd,jd,jd])
 exact sa_0 _ _ _ _ _ _ _ _ a b c (by omega) (by omega) hb hz hc ha a.length 0 _ (by omega) (by omega)
theorem Vq (s:List UInt8) (hc:true=true):af eE 6 [.str s] (tbV (E7 s) (E8 s) (E9 s) (Fa s) (Fb s) (Fe s) (YD s) (NN s)):=tbP_ev s
theorem jA (s:List UInt8) (hc:true=true):af eE 7 [.str s] (tbV (E7 s) (E8 s) (E9 s) (Fa s) (Fb s) (Fe s) (YD s) (NN s)):=tbR_ev s
theorem lSv_ok:bF eE lSv:=by
 unfold lSv;refine bF.cons (fun args r h=>?_) (bF.cons (fun args r h=>?_) bF.nil);all_goals (revert h;intro h;first|unfold VM at h)
 all_goals (split at h;rotate_left; · cases h)
 all_goals (simp only[Option.some.injEq,Prod.mk.injEq] at h;obtain⟨hc,rfl⟩:=h)
 ·exact Vq _ rfl
 ·exact jA _ rfl
theorem lS1_ok:bF eE lS1:=by
 unfold lS1;refine bF.cons (fun args r h=>?_) (bF.cons (fun args r h=>?_) (bF.cons (fun args r h=>?_) (bF.cons (fun args r h=>?_) bF.nil)));all_goals (revert h;intro h;first|unfold VM at h|unfold lSaS at h|unfold lSwS at h)
 all_goals (split at h;rotate_left; · cases h)
 all_goals (simp only[Option.some.injEq,Prod.mk.injEq] at h;obtain⟨hc,rfl⟩:=h)
 ·exact Vq _ rfl
 ·exact jA _ rfl
 ·exact lSaS_ok _ _ _ _ _ _ _ _ _ _ _ _ _ _ _ _ _ _ _ _ _ _ _ _ hc
 ·exact lSwS_ok _ _ _ _ _ _ _ _ _ _ _ _ _ _ _ _ _ _ _ _ _ _ _ _ hc
set_option maxRecDepth 100000 in
theorem lLvS_ok (hc:true=true):af eE 5 [] (.bool true):=by
 refine ai d9 lSv_ok 300 4 ?_;kernel_rfl
theorem lS2_ok:bF eE lS2:=by
 unfold lS2;refine bF.cons (fun args r h=>?_) lS1_ok;all_goals (revert h;intro h;first|unfold lLvS at h)
 all_goals (split at h;rotate_left; · cases h)
 all_goals (simp only[Option.some.injEq,Prod.mk.injEq] at h;obtain⟨hc,rfl⟩:=h)
 ·exact lLvS_ok rfl
def Few (t:Cx):Prop:=(∀z∈t.zs,(Q6 (aD z 1)).length≤256)∧ ∀z∈t.we,(Q6 (aD z 0)).length≤256
theorem Yk {x:V} {e:Nat} {sh:List Kd} {o:Option Nat} {ys:List V} (h:ys.length≤256):(Q6 (aD (YF x 1 (.sl e sh o ys)) 1)).length≤256:=by
 show(Q6 ((x.cells.set 1 (.sl e sh o ys)).getD 1 .any)).length≤256;rcases Nat.lt_or_ge 1 x.cells.length with hl|hl
 ·rw[List.getD_eq_getElem?_getD,List.getElem?_set_self hl]
  exact h
 ·rw[List.getD_eq_getElem?_getD,List.getElem?_eq_none (by simpa using hl)]
  show([]:List V).length≤256;simp
theorem Few.step {t:Cx} (hg:Good t) (h:Few t) {ln:Int} {s:List UInt8} (he:t.err s=0):Few (t.step ln s):=by
 obtain⟨hk,_,_⟩:=err_0 he;rcases hk with kd|⟨kd,ho,er⟩|⟨ho,kd,er⟩|⟨ho,kd,er⟩|⟨ho,kd,er⟩
 ·rw[tq kd];exact h
 ·rw[tq kd]
  have hy:=(xM er).2;rw[aI] at hy;have hye:=hg.ye;refine⟨fun z hz=>?_,fun z hz=>?_⟩
  ·have hz:z∈nV t.zs t.yz (bX s):=hz
   unfold nV sP at hz;rcases List.mem_or_eq_of_mem_set hz with h1|rfl
   ·exact h.1 z h1
   ·exact Yk (by unfold aX;rw[List.length_append,List.length_singleton];omega)
  ·have hz:z∈rM t.we t.ye ln:=hz
   unfold rM sP at hz;rcases List.mem_or_eq_of_mem_set hz with h1|rfl
   ·exact h.2 z h1
   ·show(aX t.ye [.int .i64 ln]).length≤256
    unfold aX;rw[List.length_append,List.length_singleton];omega
 ·rw[tq kd];exact h
 ·rw[tq kd]
  refine⟨fun z hz=>?_,fun z hz=>?_⟩
  ·have hz:z∈rO t.zs (tl1 (bX s)):=hz
   unfold rO aX at hz;rw[List.mem_append,List.mem_singleton] at hz;rcases hz with hz|rfl
   ·exact h.1 z hz
   ·show([yg (tl1 (tl1 (bX s)))]:List V).length≤256
    simp
  ·have hz:z∈vP t.we ln:=hz
   unfold vP aX at hz;rw[List.mem_append,List.mem_singleton] at hz;rcases hz with hz|rfl
   ·exact h.2 z hz
   ·show([V.int .i64 ln]:List V).length≤256
    simp
 ·rw[tq kd];exact h
theorem PO: ∀(xs:List V) (ln:Int) (t:Cx),Good t→Few t→Few (wI xs ln t).1
 |[],ln,t,_,h=>h
 |x::xs,ln,t,hg,h=>by
  unfold wI;split
  ·exact PO xs (ln+1) _ (hg.step ‹_›) (h.step hg ‹_›)
  ·exact h
theorem r0_few:Few r0:=⟨fun z (hz:z∈([]:List V))=>(nomatch hz),fun z (hz:z∈([]:List V))=>(nomatch hz)⟩
theorem Yl (s:List UInt8):sqT (E7 s) (E8 s) (E9 s) (E7 s) (E8 s) (E9 s)=true∧sqW (Fa s) (Fb s) (Fe s) (Fa s) (Fb s) (Fe s)=true:=by
 have hg:Good (FW s).1:=Lh _ _ _ yK;have hf:Few (FW s).1:=PO _ _ _ yK r0_few;obtain⟨h1,h2,h3,h4,h5,h6,h7,h8,h9,h10⟩:=hg;unfold E7 E8 E9 Fa Fb Fe;by_cases he:NN s=0
 ·rw[if_pos he,if_pos he,if_pos he,if_pos he,if_pos he,if_pos he]
  unfold Jg Jh Ji Jj Jk Jl;exact⟨C6 ⟨rfl,rfl,rfl,by omega,by omega,by omega,fun z hz=>by have:=hf.1 z hz;omega⟩,C6 ⟨rfl,rfl,rfl,by omega,by omega,by omega,fun z hz=>by have:=hf.2 z hz;omega⟩⟩
 ·rw[if_neg he,if_neg he,if_neg he,if_neg he,if_neg he,if_neg he]
  exact⟨C6 ⟨rfl,rfl,rfl,by simp,by simp,by simp,fun z hz=>by cases hz⟩,C6 ⟨rfl,rfl,rfl,by simp,by simp,by simp,fun z hz=>by cases hz⟩⟩
theorem rT_ev (s:List UInt8):af eE 3 [.str s] (.bool true):=by
 obtain⟨h1,h2⟩:=Yl s;refine ai d9 lS2_ok 5 3 ?_
 (rw[ach];(conv=>zeta);rw[jd,jd,h1,h2])
 cases ak (ah s) 8000<;>rfl
end Nt.Ev.YtpbgegnlkdfjgaaGreatDoor.Rr
