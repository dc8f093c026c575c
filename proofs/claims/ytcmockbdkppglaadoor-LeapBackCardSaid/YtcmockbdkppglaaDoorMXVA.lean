/-
  LeapBack: equations of functions (2), as the evaluator prints them.
-/
import Derived.Test.YtcmockbdkppglaaDoorMXV
set_option linter.all false
namespace Nt.Ev.YtcmockbdkppglaaDoor.Lp
open Go Nt.Num Go.Proofs.YtcmockbdkppglaaDoor
open Nt.Ev.YtcmockbdkppglaaDoor
open Nt.Civil
open Nt.Fld
open Nt.Lin
set_option maxRecDepth 100000 in
theorem Bn (F n:Nat) (x0:af) (x1 x2:Int) (x6:Bool) (x7 x8 x9:Int) (x10:Bool) (U2:Int) (R5:af) (U3 Mg:Int) (K:V→Option V):
  kY F [] (n+1) x0 x1 x2 x6 x7 x8 x9 x10 U2 true R5 U3 Mg K=
 let D:=K (V.bool false);let E:=av true (aH (aQ x0) 1000000);let H:=aY .i64 x1 1;let I:=Cc x0 x2;let C:=sel (ieq (IG x0) 0) (sel (av (av true true) (aH (aQ (Oh (qM x0))) 1000000)) (sel (Kk (Oh (qM x0)) x0) (K (V.bool (av (ieq (U0 (qM x0)) 0) (ieq (U1 (qM x0)) 0)))) D) none) D;let J:=sP x0 H;let A:=sel E (sel (aH (aK (qM x0)) 900000) (sel (aS (ieq (IG x0) 0)) (sel E (sel (aS (kU x0)) (K (V.bool true)) C) none) C) none) (none);let G:=sel (BB x0 x2) (sel (aS (ieq (sP x0 I) (bD .i64 x2 1))) D A) A;let B:=sel E (sel (ieq (sV x0 x2) 0) (sel E (sel (aS (ieq (wN x0 I) 0)) D (sel (aS (BB x0 x2)) (sel (aS (ieq (sP x0 I) x2)) D G) G)) none) A) (none);sel (aZ Mg U3) (sel (av (aH 0 Mg) (aZ Mg (aQ R5))) (kY F [] n x0 x1 x2 x6 x7 x8 x9 x10 U2 true R5 U3 (aY .i64 Mg 1) K) none) (sel (aS (ieq x9 H)) D (sel x10 D (sel (aS (ieq U2 0)) D (sel E (sel (ieq (wN x0 H) 0) (sel (aZ J x7) D (sel (aZ (aY .i64 x7 2) J) D (sel (aS (beq true (ieq J x7))) D B))) B) none)))):=by kernel_rfl
end Nt.Ev.YtcmockbdkppglaaDoor.Lp
