/-
  Answer: equations of functions, as the evaluator prints them. Answers: infos, seconds, faults, names: both sides. Answer2: equations of functions, as the evaluator prints them. Answers: a local time's text: both sides. AnswerLaw: equations of functions, as the evaluator prints them. Answers: AnswerTells as a contract.
-/
import Derived.Test.YtdhegeecbbponaaDoorMK
import Derived.Test.YtdhegeecbbponaaDoorMO
import Derived.Test.YtdhegeecbbponaaDoorMQ
set_option linter.unusedVariables false
set_option linter.unusedSimpArgs false
set_option linter.unusedSectionVars false
namespace Nt.Ev.YtdhegeecbbponaaDoor.An
open Go Nt.Num Go.Proofs.YtdhegeecbbponaaDoor
open Nt.Ev.YtdhegeecbbponaaDoor
def aoA (k : Nat) (t : Int) : Int := (Nt.Ev.YtdhegeecbbponaaDoor.ofP t).1.getD k 0
def aoW (t : Int) : Int := (Nt.Ev.YtdhegeecbbponaaDoor.ofP t).2
noncomputable def aTxS : FSpec := fun a => match a with | [.str s] => some (ile (slen s) 4000000, .tup [.str (ftT s), .int .i64 (ftW s)]) | _ => none
noncomputable def aOfS : FSpec := fun a => match a with | [.str s] => some (ile (slen s) 4000000, .tup [.sl 9 [.str] none (ofL s), .int .i64 (ofW s)]) | _ => none
noncomputable def aNtS : FSpec := fun a => match a with | [.int .i64 n] => some (band (ile (-9223372036854775808) n) (ile n 9223372036854775807), .str (text n)) | _ => none
noncomputable def aNrS : FSpec := fun a => match a with | [.str s] => some (ile (slen s) 1000, .tup [.int .i64 (nrI s), .int .i64 (nrW s)]) | _ => none
noncomputable def aSoS : FSpec := fun a => match a with | [.int .i64 t] => some (band (ile (-9223372036854775808) t) (ile t 9223372036854775807), .tup [.agg [.int .i64 (aoA 0 t), .int .i64 (aoA 1 t), .int .i64 (aoA 2 t), .int .i64 (aoA 3 t), .int .i64 (aoA 4 t), .int .i64 (aoA 5 t)], .int .i64 (aoW t)]) | _ => none
noncomputable def aStS : FSpec := fun a => match a with | [.agg [.int .i64 y, .int .i64 m, .int .i64 d, .int .i64 h, .int .i64 i, .int .i64 s]] => some (true, .str (stTxt y m d h i s)) | _ => none
noncomputable def aJoS : FSpec := fun a => match a with | [.sl e sh o xs, .str c] => some (band (e == 9 && Kd.eqL [.str] sh) (jnB xs c), .str (joinS xs c)) | _ => none
noncomputable def aCpS : FSpec := fun a => match a with | [.bxa 0 [x, b]] => some (bcOk x, .out false (.tup []) [[.box HL 0, b]]) | _ => none
noncomputable def aSgS : FSpec := fun a => match a with | [.bxa 0 [x, b]] => some (band (bcOk x) (bbOk b), .out false (.str (bbS b)) [[x, bbN b]]) | _ => none
noncomputable def aS0 : List (Nat × FSpec) := (18, aTxS) :: (22, aTxS) :: (25, aOfS) :: (27, aOfS) :: (20, aNtS) :: (23, aNtS) :: (26, aNrS) :: (28, aNrS) :: (29, aSoS) :: (31, aSoS) :: (30, aStS) :: (32, aStS) :: (24, aJoS) :: (GX + 35, aCpS) :: (GX + 21, aSgS) :: []
set_option maxRecDepth 100000 in
theorem aInfo_u6_top (a : Int) (b : Int) (c : Int) (d : Int) (s : List UInt8) (K : V → Option V) :
 evBd uE (evFn uE aS0 6 3) 6 6 [(V.agg [(V.int .i64 a), (V.int .i64 b), (V.int .i64 c), (V.int .i64 d), (V.str s)])] K =
 sel (ile (slen s) 4000000)
 (sel (bnot (ieq (ftW s) 0))
 (K (V.tup [(V.str []), (V.int .i64 (ftW s))]))
 (sel (band (ile (-9223372036854775808) a) (ile a 9223372036854775807))
 (sel (okCat (text a) [32])
 (sel (okNew (bytesV (scat (text a) [32])))
 (sel (band (ile (-9223372036854775808) b) (ile b 9223372036854775807))
 (sel (okCat (text b) [32])
 (sel (okApp (bytesV (scat (text a) [32])) (bytesV (scat (text b) [32])))
 (sel (band (ile (-9223372036854775808) c) (ile c 9223372036854775807))
 (sel (okCat (text c) [32])
 (sel (okApp (lcat (bytesV (scat (text a) [32])) (bytesV (scat (text b) [32]))) (bytesV (scat (text c) [32])))
 (sel (band (ile (-9223372036854775808) d) (ile d 9223372036854775807))
 (sel (okCat (text d) [32])
 (sel (okApp (lcat (lcat (bytesV (scat (text a) [32])) (bytesV (scat (text b) [32]))) (bytesV (scat (text c) [32]))) (bytesV (scat (text d) [32])))
 (sel (okCat (vbytes (lcat (lcat (lcat (bytesV (scat (text a) [32])) (bytesV (scat (text b) [32]))) (bytesV (scat (text c) [32]))) (bytesV (scat (text d) [32])))) (ftT s))
 (K (V.tup [(V.str (scat (vbytes (lcat (lcat (lcat (bytesV (scat (text a) [32])) (bytesV (scat (text b) [32]))) (bytesV (scat (text c) [32]))) (bytesV (scat (text d) [32])))) (ftT s))), (V.int .i64 0)]))
 (none))
 (none))
 (none))
 (none))
 (none))
 (none))
 (none))
 (none))
 (none))
 (none))
 (none))
 (none))
 (none)))
 (none) := by kernel_rfl
set_option maxRecDepth 100000 in
theorem rInfo_top (F : Nat) (a : Int) (b : Int) (c : Int) (d : Int) (s : List UInt8) (K : V → Option V) :
 evBd uE (evFn uE aS0 F 3) F 7 [(V.agg [(V.int .i64 a), (V.int .i64 b), (V.int .i64 c), (V.int .i64 d), (V.str s)])] K =
 sel (ile (slen s) 4000000)
 (sel (bnot (ieq (ftW s) 0))
 (K (V.tup [(V.str []), (V.int .i64 (ftW s))]))
 (sel (band (ile (-9223372036854775808) a) (ile a 9223372036854775807))
 (sel (okCat (text a) [32])
 (sel (band (ile (-9223372036854775808) b) (ile b 9223372036854775807))
 (sel (okCat (scat (text a) [32]) (text b))
 (sel (okCat (scat (scat (text a) [32]) (text b)) [32])
 (sel (band (ile (-9223372036854775808) c) (ile c 9223372036854775807))
 (sel (okCat (scat (scat (scat (text a) [32]) (text b)) [32]) (text c))
 (sel (okCat (scat (scat (scat (scat (text a) [32]) (text b)) [32]) (text c)) [32])
 (sel (band (ile (-9223372036854775808) d) (ile d 9223372036854775807))
 (sel (okCat (scat (scat (scat (scat (scat (text a) [32]) (text b)) [32]) (text c)) [32]) (text d))
 (sel (okCat (scat (scat (scat (scat (scat (scat (text a) [32]) (text b)) [32]) (text c)) [32]) (text d)) [32])
 (sel (okCat (scat (scat (scat (scat (scat (scat (scat (text a) [32]) (text b)) [32]) (text c)) [32]) (text d)) [32]) (ftT s))
 (K (V.tup [(V.str (scat (scat (scat (scat (scat (scat (scat (scat (text a) [32]) (text b)) [32]) (text c)) [32]) (text d)) [32]) (ftT s))), (V.int .i64 0)]))
 (none))
 (none))
 (none))
 (none))
 (none))
 (none))
 (none))
 (none))
 (none))
 (none))
 (none))
 (none)))
 (none) := by kernel_rfl
set_option maxRecDepth 100000 in
theorem aRead_u6_top (s : List UInt8) (K : V → Option V) :
 evBd uE (evFn uE aS0 6 3) 6 10 [(V.str s)] K =
 sel (ile (slen s) 4000000)
 (sel (bnot (ieq (ofW s) 0))
 (K (V.tup [(V.agg [(V.int .i64 0), (V.int .i64 0), (V.int .i64 0), (V.int .i64 0), (V.str [])]), (V.int .i64 (ofW s))]))
 (sel (ilt (llen (ofL s)) 5)
 (K (V.tup [(V.agg [(V.int .i64 0), (V.int .i64 0), (V.int .i64 0), (V.int .i64 0), (V.str [])]), (V.int .i64 5)]))
 (sel (ilt 5 (llen (ofL s)))
 (K (V.tup [(V.agg [(V.int .i64 0), (V.int .i64 0), (V.int .i64 0), (V.int .i64 0), (V.str [])]), (V.int .i64 6)]))
 (sel (band (ile 0 4) (ilt 4 (llen (ofL s))))
 (sel (band (ile 0 0) (ilt 0 (llen (ofL s))))
 (sel (ile (slen (asStr (acell (lget (ofL s) 0) 0))) 1000)
 (sel (bnot (ieq (nrW (asStr (acell (lget (ofL s) 0) 0))) 0))
 (K (V.tup [(V.agg [(V.int .i64 0), (V.int .i64 0), (V.int .i64 0), (V.int .i64 0), (V.str [])]), (V.int .i64 (nrW (asStr (acell (lget (ofL s) 0) 0))))]))
 (sel (band (ile 0 1) (ilt 1 (llen (ofL s))))
 (sel (ile (slen (asStr (acell (lget (ofL s) 1) 0))) 1000)
 (sel (bnot (ieq (nrW (asStr (acell (lget (ofL s) 1) 0))) 0))
 (K (V.tup [(V.agg [(V.int .i64 0), (V.int .i64 0), (V.int .i64 0), (V.int .i64 0), (V.str [])]), (V.int .i64 (nrW (asStr (acell (lget (ofL s) 1) 0))))]))
 (sel (band (ile 0 2) (ilt 2 (llen (ofL s))))
 (sel (ile (slen (asStr (acell (lget (ofL s) 2) 0))) 1000)
 (sel (bnot (ieq (nrW (asStr (acell (lget (ofL s) 2) 0))) 0))
 (K (V.tup [(V.agg [(V.int .i64 0), (V.int .i64 0), (V.int .i64 0), (V.int .i64 0), (V.str [])]), (V.int .i64 (nrW (asStr (acell (lget (ofL s) 2) 0))))]))
 (sel (band (ile 0 3) (ilt 3 (llen (ofL s))))
 (sel (ile (slen (asStr (acell (lget (ofL s) 3) 0))) 1000)
 (sel (bnot (ieq (nrW (asStr (acell (lget (ofL s) 3) 0))) 0))
 (K (V.tup [(V.agg [(V.int .i64 0), (V.int .i64 0), (V.int .i64 0), (V.int .i64 0), (V.str [])]), (V.int .i64 (nrW (asStr (acell (lget (ofL s) 3) 0))))]))
 (K (V.tup [(V.agg [(V.int .i64 (nrI (asStr (acell (lget (ofL s) 0) 0)))), (V.int .i64 (nrI (asStr (acell (lget (ofL s) 1) 0)))), (V.int .i64 (nrI (asStr (acell (lget (ofL s) 2) 0)))), (V.int .i64 (nrI (asStr (acell (lget (ofL s) 3) 0)))), (V.str (asStr (acell (lget (ofL s) 4) 0)))]), (V.int .i64 0)])))
 (none))
 (none)))
 (none))
 (none)))
 (none))
 (none)))
 (none))
 (none))
 (none)))))
 (none) := by kernel_rfl
set_option maxRecDepth 100000 in
theorem rRead_u6_top (s : List UInt8) (K : V → Option V) :
 evBd uE (evFn uE aS0 6 3) 6 11 [(V.str s)] K =
 sel (ile (slen s) 4000000)
 (sel (bnot (ieq (ofW s) 0))
 (K (V.tup [(V.agg [(V.int .i64 0), (V.int .i64 0), (V.int .i64 0), (V.int .i64 0), (V.str [])]), (V.int .i64 (ofW s))]))
 (sel (ilt (llen (ofL s)) 5)
 (K (V.tup [(V.agg [(V.int .i64 0), (V.int .i64 0), (V.int .i64 0), (V.int .i64 0), (V.str [])]), (V.int .i64 5)]))
 (sel (ilt 5 (llen (ofL s)))
 (K (V.tup [(V.agg [(V.int .i64 0), (V.int .i64 0), (V.int .i64 0), (V.int .i64 0), (V.str [])]), (V.int .i64 6)]))
 (sel (band (ile 0 4) (ile 4 (llen (ofL s))))
 (sel (ilt 0 (llen (lsub (ofL s) 0 4)))
 (sel (band (ile 0 0) (ilt 0 (llen (lsub (ofL s) 0 4))))
 (sel (ile (slen (asStr (acell (lget (lsub (ofL s) 0 4) 0) 0))) 1000)
 (sel (bnot (ieq (nrW (asStr (acell (lget (lsub (ofL s) 0 4) 0) 0))) 0))
 (K (V.tup [(V.agg [(V.int .i64 0), (V.int .i64 0), (V.int .i64 0), (V.int .i64 0), (V.str [])]), (V.int .i64 (nrW (asStr (acell (lget (lsub (ofL s) 0 4) 0) 0))))]))
 (sel (okApp [] [(V.int .i64 (nrI (asStr (acell (lget (lsub (ofL s) 0 4) 0) 0))))])
 (sel (ilt 1 (llen (lsub (ofL s) 0 4)))
 (sel (band (ile 0 1) (ilt 1 (llen (lsub (ofL s) 0 4))))
 (sel (ile (slen (asStr (acell (lget (lsub (ofL s) 0 4) 1) 0))) 1000)
 (sel (bnot (ieq (nrW (asStr (acell (lget (lsub (ofL s) 0 4) 1) 0))) 0))
 (K (V.tup [(V.agg [(V.int .i64 0), (V.int .i64 0), (V.int .i64 0), (V.int .i64 0), (V.str [])]), (V.int .i64 (nrW (asStr (acell (lget (lsub (ofL s) 0 4) 1) 0))))]))
 (sel (okApp [(V.int .i64 (nrI (asStr (acell (lget (lsub (ofL s) 0 4) 0) 0))))] [(V.int .i64 (nrI (asStr (acell (lget (lsub (ofL s) 0 4) 1) 0))))])
 (sel (ilt 2 (llen (lsub (ofL s) 0 4)))
 (sel (band (ile 0 2) (ilt 2 (llen (lsub (ofL s) 0 4))))
 (sel (ile (slen (asStr (acell (lget (lsub (ofL s) 0 4) 2) 0))) 1000)
 (sel (bnot (ieq (nrW (asStr (acell (lget (lsub (ofL s) 0 4) 2) 0))) 0))
 (K (V.tup [(V.agg [(V.int .i64 0), (V.int .i64 0), (V.int .i64 0), (V.int .i64 0), (V.str [])]), (V.int .i64 (nrW (asStr (acell (lget (lsub (ofL s) 0 4) 2) 0))))]))
 (sel (okApp [(V.int .i64 (nrI (asStr (acell (lget (lsub (ofL s) 0 4) 0) 0)))), (V.int .i64 (nrI (asStr (acell (lget (lsub (ofL s) 0 4) 1) 0))))] [(V.int .i64 (nrI (asStr (acell (lget (lsub (ofL s) 0 4) 2) 0))))])
 (sel (ilt 3 (llen (lsub (ofL s) 0 4)))
 (sel (band (ile 0 3) (ilt 3 (llen (lsub (ofL s) 0 4))))
 (sel (ile (slen (asStr (acell (lget (lsub (ofL s) 0 4) 3) 0))) 1000)
 (sel (bnot (ieq (nrW (asStr (acell (lget (lsub (ofL s) 0 4) 3) 0))) 0))
 (K (V.tup [(V.agg [(V.int .i64 0), (V.int .i64 0), (V.int .i64 0), (V.int .i64 0), (V.str [])]), (V.int .i64 (nrW (asStr (acell (lget (lsub (ofL s) 0 4) 3) 0))))]))
 (sel (okApp [(V.int .i64 (nrI (asStr (acell (lget (lsub (ofL s) 0 4) 0) 0)))), (V.int .i64 (nrI (asStr (acell (lget (lsub (ofL s) 0 4) 1) 0)))), (V.int .i64 (nrI (asStr (acell (lget (lsub (ofL s) 0 4) 2) 0))))] [(V.int .i64 (nrI (asStr (acell (lget (lsub (ofL s) 0 4) 3) 0))))])
 (sel (ilt 4 (llen (lsub (ofL s) 0 4)))
 (sel (band (ile 0 4) (ilt 4 (llen (lsub (ofL s) 0 4))))
 (sel (ile (slen (asStr (acell (lget (lsub (ofL s) 0 4) 4) 0))) 1000)
 (sel (bnot (ieq (nrW (asStr (acell (lget (lsub (ofL s) 0 4) 4) 0))) 0))
 (K (V.tup [(V.agg [(V.int .i64 0), (V.int .i64 0), (V.int .i64 0), (V.int .i64 0), (V.str [])]), (V.int .i64 (nrW (asStr (acell (lget (lsub (ofL s) 0 4) 4) 0))))]))
 (sel (okApp [(V.int .i64 (nrI (asStr (acell (lget (lsub (ofL s) 0 4) 0) 0)))), (V.int .i64 (nrI (asStr (acell (lget (lsub (ofL s) 0 4) 1) 0)))), (V.int .i64 (nrI (asStr (acell (lget (lsub (ofL s) 0 4) 2) 0)))), (V.int .i64 (nrI (asStr (acell (lget (lsub (ofL s) 0 4) 3) 0))))] [(V.int .i64 (nrI (asStr (acell (lget (lsub (ofL s) 0 4) 4) 0))))])
 (sel (ilt 5 (llen (lsub (ofL s) 0 4)))
 (sel (band (ile 0 5) (ilt 5 (llen (lsub (ofL s) 0 4))))
 (sel (ile (slen (asStr (acell (lget (lsub (ofL s) 0 4) 5) 0))) 1000)
 (sel (bnot (ieq (nrW (asStr (acell (lget (lsub (ofL s) 0 4) 5) 0))) 0))
 (K (V.tup [(V.agg [(V.int .i64 0), (V.int .i64 0), (V.int .i64 0), (V.int .i64 0), (V.str [])]), (V.int .i64 (nrW (asStr (acell (lget (lsub (ofL s) 0 4) 5) 0))))]))
 (sel (okApp [(V.int .i64 (nrI (asStr (acell (lget (lsub (ofL s) 0 4) 0) 0)))), (V.int .i64 (nrI (asStr (acell (lget (lsub (ofL s) 0 4) 1) 0)))), (V.int .i64 (nrI (asStr (acell (lget (lsub (ofL s) 0 4) 2) 0)))), (V.int .i64 (nrI (asStr (acell (lget (lsub (ofL s) 0 4) 3) 0)))), (V.int .i64 (nrI (asStr (acell (lget (lsub (ofL s) 0 4) 4) 0))))] [(V.int .i64 (nrI (asStr (acell (lget (lsub (ofL s) 0 4) 5) 0))))])
 (none)
 (none)))
 (none))
 (none))
 (sel (band (ile 0 4) (ilt 4 (llen (ofL s))))
 (K (V.tup [(V.agg [(V.int .i64 (nrI (asStr (acell (lget (lsub (ofL s) 0 4) 0) 0)))), (V.int .i64 (nrI (asStr (acell (lget (lsub (ofL s) 0 4) 1) 0)))), (V.int .i64 (nrI (asStr (acell (lget (lsub (ofL s) 0 4) 2) 0)))), (V.int .i64 (nrI (asStr (acell (lget (lsub (ofL s) 0 4) 3) 0)))), (V.str (asStr (acell (lget (ofL s) 4) 0)))]), (V.int .i64 0)]))
 (none)))
 (none)))
 (none))
 (none))
 (sel (band (ile 0 4) (ilt 4 (llen (ofL s))))
 (K (V.tup [(V.agg [(V.int .i64 (nrI (asStr (acell (lget (lsub (ofL s) 0 4) 0) 0)))), (V.int .i64 (nrI (asStr (acell (lget (lsub (ofL s) 0 4) 1) 0)))), (V.int .i64 (nrI (asStr (acell (lget (lsub (ofL s) 0 4) 2) 0)))), (V.int .i64 (nrI (asStr (acell (lget (lsub (ofL s) 0 4) 3) 0)))), (V.str (asStr (acell (lget (ofL s) 4) 0)))]), (V.int .i64 0)]))
 (none)))
 (none)))
 (none))
 (none))
 (none))
 (none)))
 (none))
 (none))
 (none))
 (none)))
 (none))
 (none))
 (none))
 (none)))
 (none))
 (none))
 (none))
 (none)))))
 (none) := by kernel_rfl
set_option maxRecDepth 100000 in
theorem aSec_top (F : Nat) (t : Int) (K : V → Option V) :
 evBd uE (evFn uE aS0 F 3) F 14 [(V.int .i64 t)] K =
 sel (band (ile (-9223372036854775808) t) (ile t 9223372036854775807))
 (sel (band (ile (-9223372036854775808) t) (ile t 9223372036854775807))
 (sel (ieq (aoW t) 0)
 (sel (okCat [32] (stTxt (aoA 0 t) (aoA 1 t) (aoA 2 t) (aoA 3 t) (aoA 4 t) (aoA 5 t)))
 (sel (okCat (text t) (scat [32] (stTxt (aoA 0 t) (aoA 1 t) (aoA 2 t) (aoA 3 t) (aoA 4 t) (aoA 5 t))))
 (K (V.str (scat (text t) (scat [32] (stTxt (aoA 0 t) (aoA 1 t) (aoA 2 t) (aoA 3 t) (aoA 4 t) (aoA 5 t))))))
 (none))
 (none))
 (K (V.str (text t))))
 (none))
 (none) := by kernel_rfl
set_option maxRecDepth 100000 in
theorem rSec_top (F : Nat) (t : Int) (K : V → Option V) :
 evBd uE (evFn uE aS0 F 3) F 15 [(V.int .i64 t)] K =
 sel (band (ile (-9223372036854775808) t) (ile t 9223372036854775807))
 (sel (bnot (ieq (aoW t) 0))
 (sel (band (ile (-9223372036854775808) t) (ile t 9223372036854775807))
 (K (V.str (text t)))
 (none))
 (sel (band (ile (-9223372036854775808) t) (ile t 9223372036854775807))
 (sel (okCat (text t) [32])
 (sel (okCat (scat (text t) [32]) (stTxt (aoA 0 t) (aoA 1 t) (aoA 2 t) (aoA 3 t) (aoA 4 t) (aoA 5 t)))
 (K (V.str (scat (scat (text t) [32]) (stTxt (aoA 0 t) (aoA 1 t) (aoA 2 t) (aoA 3 t) (aoA 4 t) (aoA 5 t)))))
 (none))
 (none))
 (none)))
 (none) := by kernel_rfl
set_option maxRecDepth 100000 in
theorem aFau_top (F : Nat) (l : Int) (e : Int) (K : V → Option V) :
 evBd uE (evFn uE aS0 F 3) F 16 [(V.agg [(V.int .i64 l), (V.int .i64 e)])] K =
 sel (band (ile (-9223372036854775808) e) (ile e 9223372036854775807))
 (sel (okCat [101, 114, 114, 111, 114, 32] (text e))
 (sel (ilt 0 l)
 (sel (band (ile (-9223372036854775808) l) (ile l 9223372036854775807))
 (sel (okCat [32, 105, 110, 32, 108, 105, 110, 101, 32] (text l))
 (sel (okCat (scat [101, 114, 114, 111, 114, 32] (text e)) (scat [32, 105, 110, 32, 108, 105, 110, 101, 32] (text l)))
 (K (V.str (scat (scat [101, 114, 114, 111, 114, 32] (text e)) (scat [32, 105, 110, 32, 108, 105, 110, 101, 32] (text l)))))
 (none))
 (none))
 (none))
 (K (V.str (scat [101, 114, 114, 111, 114, 32] (text e)))))
 (none))
 (none) := by kernel_rfl
set_option maxRecDepth 100000 in
theorem rFau_top (F : Nat) (l : Int) (e : Int) (K : V → Option V) :
 evBd uE (evFn uE aS0 F 3) F 17 [(V.agg [(V.int .i64 l), (V.int .i64 e)])] K =
 sel (band (ile (-9223372036854775808) e) (ile e 9223372036854775807))
 (sel (okCat [101, 114, 114, 111, 114, 32] (text e))
 (sel (ilt 0 l)
 (sel (band (ile (-9223372036854775808) l) (ile l 9223372036854775807))
 (sel (okCat [32, 105, 110, 32, 108, 105, 110, 101, 32] (text l))
 (sel (okCat (scat [101, 114, 114, 111, 114, 32] (text e)) (scat [32, 105, 110, 32, 108, 105, 110, 101, 32] (text l)))
 (K (V.str (scat (scat [101, 114, 114, 111, 114, 32] (text e)) (scat [32, 105, 110, 32, 108, 105, 110, 101, 32] (text l)))))
 (none))
 (none))
 (none))
 (K (V.str (scat [101, 114, 114, 111, 114, 32] (text e)))))
 (none))
 (none) := by kernel_rfl
noncomputable def aNam_L0 (F : Nat) (ns : List Nat) (n : Nat) (x0 : List V) (x2 : List UInt8) (x3 : Int) (x4 : List V) (x10 : List V) (x11 : Int) (x12 : Int) (K : V → Option V) : Option V :=
 loopAt uE aS0 F 3 12 [1, 1, 0, 1, 0] ns K n (mkSt 31 [(0, V.sl 9 [(Kd.str)] none x0), (2, V.str x2), (3, V.int .i64 x3), (4, V.sl 9 [(Kd.str)] (some 4) x4), (10, V.sl 9 [(Kd.str)] none x10), (11, V.int .i64 x11), (12, V.int .i64 x12)] [])
set_option maxRecDepth 100000 in
theorem aNam_top (F : Nat) (xs : List V) (K : V → Option V) :
 evBd uE (evFn uE aS0 F 3) F 12 [(V.sl 9 [(Kd.str)] none xs)] K =
 aNam_L0 F [] F xs [] 0 [(V.str [110, 97, 109, 101, 115])] xs (llen xs) 0 K := by kernel_rfl
set_option maxRecDepth 100000 in
theorem aNam_L0_succ (F : Nat) (n : Nat) (x0 : List V) (x2 : List UInt8) (x3 : Int) (x4 : List V) (x10 : List V) (x11 : Int) (x12 : Int) (K : V → Option V) :
 aNam_L0 F [] (n + 1) x0 x2 x3 x4 x10 x11 x12 K =
 sel (ilt x12 x11)
 (sel (band (ile 0 x12) (ilt x12 (llen x10)))
 (sel (ile (slen (asStr (acell (lget x10 x12) 0))) 4000000)
 (sel (bnot (ieq (ftW (asStr (acell (lget x10 x12) 0))) 0))
 (K (V.tup [(V.str []), (V.int .i64 (ftW (asStr (acell (lget x10 x12) 0))))]))
 (sel (okApp x4 [(V.str (ftT (asStr (acell (lget x10 x12) 0))))])
 (aNam_L0 F [] n x0 x2 x3 (lcat x4 [(V.str (ftT (asStr (acell (lget x10 x12) 0))))]) x10 x11 (iadd .i64 x12 1) K)
 (none)))
 (none))
 (none))
 (sel (band true (jnB x4 [32]))
 (K (V.tup [(V.str (joinS x4 [32])), (V.int .i64 0)]))
 (none)) := by kernel_rfl
noncomputable def rNam_L0 (F : Nat) (ns : List Nat) (n : Nat) (x0 : List V) (x2 : List UInt8) (x3 : Int) (x4 : List UInt8) (x9 : List V) (x10 : Int) (x11 : Int) (K : V → Option V) : Option V :=
 loopAt uE aS0 F 3 13 [1, 1, 0, 1, 0] ns K n (mkSt 29 [(0, V.sl 9 [(Kd.str)] none x0), (2, V.str x2), (3, V.int .i64 x3), (4, V.str x4), (9, V.sl 9 [(Kd.str)] none x9), (10, V.int .i64 x10), (11, V.int .i64 x11)] [])
set_option maxRecDepth 100000 in
theorem rNam_top (F : Nat) (xs : List V) (K : V → Option V) :
 evBd uE (evFn uE aS0 F 3) F 13 [(V.sl 9 [(Kd.str)] none xs)] K =
 rNam_L0 F [] F xs [] 0 [110, 97, 109, 101, 115] xs (llen xs) 0 K := by kernel_rfl
set_option maxRecDepth 100000 in
theorem rNam_L0_succ (F : Nat) (n : Nat) (x0 : List V) (x2 : List UInt8) (x3 : Int) (x4 : List UInt8) (x9 : List V) (x10 : Int) (x11 : Int) (K : V → Option V) :
 rNam_L0 F [] (n + 1) x0 x2 x3 x4 x9 x10 x11 K =
 sel (ilt x11 x10)
 (sel (band (ile 0 x11) (ilt x11 (llen x9)))
 (sel (ile (slen (asStr (acell (lget x9 x11) 0))) 4000000)
 (sel (bnot (ieq (ftW (asStr (acell (lget x9 x11) 0))) 0))
 (K (V.tup [(V.str []), (V.int .i64 (ftW (asStr (acell (lget x9 x11) 0))))]))
 (sel (okCat [32] (ftT (asStr (acell (lget x9 x11) 0))))
 (sel (okCat x4 (scat [32] (ftT (asStr (acell (lget x9 x11) 0)))))
 (rNam_L0 F [] n x0 x2 x3 (scat x4 (scat [32] (ftT (asStr (acell (lget x9 x11) 0))))) x9 x10 (iadd .i64 x11 1) K)
 (none))
 (none)))
 (none))
 (none))
 (K (V.tup [(V.str x4), (V.int .i64 0)])) := by kernel_rfl
end Nt.Ev.YtdhegeecbbponaaDoor.An

set_option linter.unusedVariables false
set_option linter.unusedSimpArgs false
set_option linter.unusedSectionVars false
namespace Nt.Ev.YtdhegeecbbponaaDoor.An
set_option maxRecDepth 100000
open Go Go.RowKit Nt Nt.Num Nt.Fld Nt.Civil Nt.Ev.YtdhegeecbbponaaDoor Go.Proofs.YtdhegeecbbponaaDoor
theorem toUh {f : Nat} {args : List V} {r : V} (h : Contract hE f args r) : Contract uE f args r := Contract.env (E := hE) rfl (fun n v h => by cases h) h
theorem fitN {n : Int} (h : band (ile (-9223372036854775808) n) (ile n 9223372036854775807) = true) : Fits n := by
  rw [band_iff, ile_iff, ile_iff] at h
  unfold Fits; omega
theorem aTxS_ok (s : List UInt8) (hc : ile (slen s) 4000000 = true) : Contract uE 18 [.str s] (.tup [.str (ftT s), .int .i64 (ftW s)]) := toUh (hTextS_ok s hc)
theorem aTxS_ok_noontideref14_Text (s : List UInt8) (hc : ile (slen s) 4000000 = true) : Contract uE 22 [.str s] (.tup [.str (ftT s), .int .i64 (ftW s)]) := toUh (hTextS_ok_noontideref14_Text s hc)
theorem aOfS_ok (s : List UInt8) (hc : ile (slen s) 4000000 = true) : Contract uE 25 [.str s] (.tup [.sl 9 [.str] none (ofL s), .int .i64 (ofW s)]) := toUh (hOfS_ok s hc)
theorem aOfS_ok_noontideref14_Of (s : List UInt8) (hc : ile (slen s) 4000000 = true) : Contract uE 27 [.str s] (.tup [.sl 9 [.str] none (ofL s), .int .i64 (ofW s)]) := toUh (hOfS_ok_noontideref14_Of s hc)
theorem aNtS_ok (n : Int) (hc : band (ile (-9223372036854775808) n) (ile n 9223372036854775807) = true) : Contract uE 20 [.int .i64 n] (.str (text n)) := toU' (nText_ev n (fitN hc))
theorem aNtS_ok_noontideref01_Text (n : Int) (hc : band (ile (-9223372036854775808) n) (ile n 9223372036854775807) = true) : Contract uE 23 [.int .i64 n] (.str (text n)) := toU' (rText_ev n (fitN hc))
theorem aNrS_ok (s : List UInt8) (hc : ile (slen s) 1000 = true) : Contract uE 26 [.str s] (.tup [.int .i64 (nrI s), .int .i64 (nrW s)]) := toU' (nRead_c s (len_u hc))
theorem aNrS_ok_noontideref01_Read (s : List UInt8) (hc : ile (slen s) 1000 = true) : Contract uE 28 [.str s] (.tup [.int .i64 (nrI s), .int .i64 (nrW s)]) := toU' (rRead_c s (len_u hc))
theorem ao_V (t : Int) : resO (Nt.Ev.YtdhegeecbbponaaDoor.ofP t) = .tup [.agg [.int .i64 (aoA 0 t), .int .i64 (aoA 1 t), .int .i64 (aoA 2 t), .int .i64 (aoA 3 t), .int .i64 (aoA 4 t), .int .i64 (aoA 5 t)], .int .i64 (aoW t)] := by
  unfold aoA aoW resO Nt.Ev.YtdhegeecbbponaaDoor.ofP
  split <;> rfl
theorem aSoS_ok (t : Int) (hc : band (ile (-9223372036854775808) t) (ile t 9223372036854775807) = true) : Contract uE 29 [.int .i64 t] (.tup [.agg [.int .i64 (aoA 0 t), .int .i64 (aoA 1 t), .int .i64 (aoA 2 t), .int .i64 (aoA 3 t), .int .i64 (aoA 4 t), .int .i64 (aoA 5 t)], .int .i64 (aoW t)]) := by
  have := toU (stOf_ev t (fitN hc))
  rw [ao_V] at this
  exact this
theorem aSoS_ok_noontideref04_Of (t : Int) (hc : band (ile (-9223372036854775808) t) (ile t 9223372036854775807) = true) : Contract uE 31 [.int .i64 t] (.tup [.agg [.int .i64 (aoA 0 t), .int .i64 (aoA 1 t), .int .i64 (aoA 2 t), .int .i64 (aoA 3 t), .int .i64 (aoA 4 t), .int .i64 (aoA 5 t)], .int .i64 (aoW t)]) := by
  have := toU (srOf_ev t (fitN hc))
  rw [ao_V] at this
  exact this
theorem aStS_ok (y m d h i s : Int) (hc : true = true) : Contract uE 30 [.agg [.int .i64 y, .int .i64 m, .int .i64 d, .int .i64 h, .int .i64 i, .int .i64 s]] (.str (stTxt y m d h i s)) := uText_ev y m d h i s
theorem aStS_ok_noontideref04_Text (y m d h i s : Int) (hc : true = true) : Contract uE 32 [.agg [.int .i64 y, .int .i64 m, .int .i64 d, .int .i64 h, .int .i64 i, .int .i64 s]] (.str (stTxt y m d h i s)) := toU (srText_ev y m d h i s)
theorem aJoS_ok (e : Nat) (sh : List Kd) (o : Option Nat) (xs : List V) (c : List UInt8) (hc : band (e == 9 && Kd.eqL [.str] sh) (jnB xs c) = true) : Contract uE 24 [.sl e sh o xs, .str c] (.str (joinS xs c)) := toUh (hJoS_ok e sh o xs c hc)
theorem aCpS_ok (x b : V) (hc : bcOk x = true) : XOk uE 35 [.bxa 0 [x, b]] (.out false (.tup []) [[.box HL 0, b]]) := XOk.env (E := oE) rfl (fun n v h => by cases h) (bCpS_ok x b hc)
theorem aSgS_ok (x b : V) (hc : band (bcOk x) (bbOk b) = true) : XOk uE 21 [.bxa 0 [x, b]] (.out false (.str (bbS b)) [[x, bbN b]]) := XOk.env (E := oE) rfl (fun n v h => by cases h) (bStS_ok x b hc)
theorem aS0_ok : SOk uE aS0 := by
  unfold aS0
  refine SOk.cons (fun args r h => ?_) (SOk.cons (fun args r h => ?_) (SOk.cons (fun args r h => ?_) (SOk.cons (fun args r h => ?_) (SOk.cons (fun args r h => ?_) (SOk.cons (fun args r h => ?_) (SOk.cons (fun args r h => ?_) (SOk.cons (fun args r h => ?_) (SOk.cons (fun args r h => ?_) (SOk.cons (fun args r h => ?_) (SOk.cons (fun args r h => ?_) (SOk.cons (fun args r h => ?_) (SOk.cons (fun args r h => ?_) (SOk.consX (fun args r h => ?_) (SOk.consX (fun args r h => ?_) (SOk.nil)))))))))))))))
  · unfold aTxS at h
    split at h
    · simp only [Option.some.injEq, Prod.mk.injEq] at h
      obtain ⟨hc, rfl⟩ := h
      exact aTxS_ok _ hc
    · cases h
  · unfold aTxS at h
    split at h
    · simp only [Option.some.injEq, Prod.mk.injEq] at h
      obtain ⟨hc, rfl⟩ := h
      exact aTxS_ok_noontideref14_Text _ hc
    · cases h
  · unfold aOfS at h
    split at h
    · simp only [Option.some.injEq, Prod.mk.injEq] at h
      obtain ⟨hc, rfl⟩ := h
      exact aOfS_ok _ hc
    · cases h
  · unfold aOfS at h
    split at h
    · simp only [Option.some.injEq, Prod.mk.injEq] at h
      obtain ⟨hc, rfl⟩ := h
      exact aOfS_ok_noontideref14_Of _ hc
    · cases h
  · unfold aNtS at h
    split at h
    · simp only [Option.some.injEq, Prod.mk.injEq] at h
      obtain ⟨hc, rfl⟩ := h
      exact aNtS_ok _ hc
    · cases h
  · unfold aNtS at h
    split at h
    · simp only [Option.some.injEq, Prod.mk.injEq] at h
      obtain ⟨hc, rfl⟩ := h
      exact aNtS_ok_noontideref01_Text _ hc
    · cases h
  · unfold aNrS at h
    split at h
    · simp only [Option.some.injEq, Prod.mk.injEq] at h
      obtain ⟨hc, rfl⟩ := h
      exact aNrS_ok _ hc
    · cases h
  · unfold aNrS at h
    split at h
    · simp only [Option.some.injEq, Prod.mk.injEq] at h
      obtain ⟨hc, rfl⟩ := h
      exact aNrS_ok_noontideref01_Read _ hc
    · cases h
  · unfold aSoS at h
    split at h
    · simp only [Option.some.injEq, Prod.mk.injEq] at h
      obtain ⟨hc, rfl⟩ := h
      exact aSoS_ok _ hc
    · cases h
  · unfold aSoS at h
    split at h
    · simp only [Option.some.injEq, Prod.mk.injEq] at h
      obtain ⟨hc, rfl⟩ := h
      exact aSoS_ok_noontideref04_Of _ hc
    · cases h
  · unfold aStS at h
    split at h
    · simp only [Option.some.injEq, Prod.mk.injEq] at h
      obtain ⟨hc, rfl⟩ := h
      exact aStS_ok _ _ _ _ _ _ rfl
    · cases h
  · unfold aStS at h
    split at h
    · simp only [Option.some.injEq, Prod.mk.injEq] at h
      obtain ⟨hc, rfl⟩ := h
      exact aStS_ok_noontideref04_Text _ _ _ _ _ _ rfl
    · cases h
  · unfold aJoS at h
    split at h
    · simp only [Option.some.injEq, Prod.mk.injEq] at h
      obtain ⟨hc, rfl⟩ := h
      exact aJoS_ok _ _ _ _ _ hc
    · cases h
  · unfold aCpS at h
    split at h
    · simp only [Option.some.injEq, Prod.mk.injEq] at h
      obtain ⟨hc, rfl⟩ := h
      exact aCpS_ok _ _ hc
    · cases h
  · unfold aSgS at h
    split at h
    · simp only [Option.some.injEq, Prod.mk.injEq] at h
      obtain ⟨hc, rfl⟩ := h
      exact aSgS_ok _ _ hc
    · cases h
theorem st0 (x y : Option V) : sel true x y = x := rfl
theorem stx_len (y m d h i s : Int) : (stTxt y m d h i s).length ≤ 400 := by
  unfold stTxt
  split
  · rename_i hB
    obtain ⟨hv, h1⟩ := stB_iff.1 hB
    obtain ⟨y1, y2, hv2⟩ := validB_iff.1 hv
    have hm := len_month hv2
    have hd : 1 ≤ d ∧ d ≤ 31 := ⟨hv2.1, by have := len_pos y m hm.1 hm.2; have := hv2.2; omega⟩
    have lm := wide_len m 2 (by omega) (by omega)
    have ld := wide_len d 2 (by omega) (by omega)
    have lh := wide_len h 2 (by omega) (by omega)
    have li := wide_len i 2 (by omega) (by omega)
    have ls := wide_len s 2 (by omega) (by omega)
    have ly := wide_len y 4 (by omega) (by omega)
    have ly' := wide_len (-y) 4 (by omega) (by omega)
    split <;> (simp only [List.length_append, List.length_cons]; omega)
  · simp
noncomputable def inT (a b c d : Int) (s : List UInt8) : List UInt8 := if ftW s = 0 then text a ++ 32 :: (text b ++ 32 :: (text c ++ 32 :: (text d ++ 32 :: ftT s))) else []
def fb (n : Int) : Bool := band (ile (-9223372036854775808) n) (ile n 9223372036854775807)
theorem tl (n : Int) (h : fb n = true) : (text n).length ≤ 21 := (text_len n (fitN h)).1
theorem ftl (s : List UInt8) : (ftT s).length ≤ s.length + 2 := tx1_len s
theorem okc {a b : List UInt8} (h : a.length + b.length ≤ 2000000000) : okCat a b = true := by rw [okCat_iff]; omega
theorem sc (a b : List UInt8) : scat a b = a ++ b := rfl
theorem bl (l : List UInt8) : (bytesV l).length = l.length := by unfold bytesV; simp
theorem oka {a b : List UInt8} (h : a.length + b.length ≤ 16777216) : okApp (bytesV a) (bytesV b) = true := by rw [okApp_iff, bl, bl]; exact h
theorem okn {a : List UInt8} (h : a.length ≤ 16777216) : okNew (bytesV a) = true := by unfold okNew; rw [nle_iff, bl]; exact h
theorem aInfo_ev (a b c d : Int) (s : List UInt8) (hs : s.length ≤ 1000) (ha : fb a = true) (hb : fb b = true) (hc : fb c = true) (hd : fb d = true) : Contract uE 6 [.agg [.int .i64 a, .int .i64 b, .int .i64 c, .int .i64 d, .str s]] (.tup [.str (inT a b c d s), .int .i64 (ftW s)]) := by
  refine contract_of_body uE_ok aS0_ok 6 3 ?_
  have h4 : ile (slen s) 4000000 = true := ile_t (by rw [slen_nat]; omega)
  have la := tl a ha
  have lb := tl b hb
  have lc := tl c hc
  have ld := tl d hd
  have lf := ftl s
  unfold fb at ha hb hc hd
  rw [aInfo_u6_top, sel_pos h4]
  unfold inT
  by_cases hw : ftW s = 0
  · rw [sel_neg (by rw [← Bool.not_eq_true, bnot_iff, Classical.not_not, ieq_iff]; exact hw), if_pos hw, sel_pos ha, sel_pos (okc (by simp only [List.length_cons, List.length_nil]; omega)), sel_pos (okn (by simp only [sc, List.length_append, List.length_cons, List.length_nil]; omega)), sel_pos hb, sel_pos (okc (by simp only [List.length_cons, List.length_nil]; omega)), sel_pos (oka (by simp only [sc, List.length_append, List.length_cons, List.length_nil]; omega)), sel_pos hc, sel_pos (okc (by simp only [List.length_cons, List.length_nil]; omega)), bcat, sel_pos (oka (by simp only [sc, List.length_append, List.length_cons, List.length_nil]; omega)), sel_pos hd, sel_pos (okc (by simp only [List.length_cons, List.length_nil]; omega)), bcat, sel_pos (oka (by simp only [sc, List.length_append, List.length_cons, List.length_nil]; omega)), bcat, bvb, sel_pos (okc (by simp only [sc, List.length_append, List.length_cons, List.length_nil]; omega)), hw]
    simp only [sc, List.append_assoc, List.cons_append, List.nil_append]
  · rw [sel_pos (by rw [bnot_iff, ieq_iff]; exact hw), if_neg hw]
theorem rInfo_ev (a b c d : Int) (s : List UInt8) (hs : s.length ≤ 1000) (ha : fb a = true) (hb : fb b = true) (hc : fb c = true) (hd : fb d = true) : Contract uE 7 [.agg [.int .i64 a, .int .i64 b, .int .i64 c, .int .i64 d, .str s]] (.tup [.str (inT a b c d s), .int .i64 (ftW s)]) := by
  refine contract_of_body uE_ok aS0_ok 6 3 ?_
  have h4 : ile (slen s) 4000000 = true := ile_t (by rw [slen_nat]; omega)
  have la := tl a ha
  have lb := tl b hb
  have lc := tl c hc
  have ld := tl d hd
  have lf := ftl s
  unfold fb at ha hb hc hd
  rw [rInfo_top, sel_pos h4]
  unfold inT
  by_cases hw : ftW s = 0
  · have key : ∀ x y : List UInt8, x.length ≤ 2000 → y.length ≤ 2000 → okCat x y = true := fun x y h1 h2 => okc (by omega)
    rw [sel_neg (by rw [← Bool.not_eq_true, bnot_iff, Classical.not_not, ieq_iff]; exact hw), if_pos hw]
    simp (disch := ((try simp only [sc, List.length_append, List.length_cons, List.length_nil]); omega)) only [ha, hb, hc, hd, key, st0, hw, sc, List.append_assoc, List.cons_append, List.nil_append]
  · rw [sel_pos (by rw [bnot_iff, ieq_iff]; exact hw), if_neg hw]
noncomputable def seT (t : Int) : List UInt8 := if aoW t = 0 then text t ++ 32 :: stTxt (aoA 0 t) (aoA 1 t) (aoA 2 t) (aoA 3 t) (aoA 4 t) (aoA 5 t) else text t
theorem aSec_ev (t : Int) (ht : fb t = true) : Contract uE 14 [.int .i64 t] (.str (seT t)) := by
  refine contract_of_body uE_ok aS0_ok 6 3 ?_
  have l1 := tl t ht
  have l2 := stx_len (aoA 0 t) (aoA 1 t) (aoA 2 t) (aoA 3 t) (aoA 4 t) (aoA 5 t)
  unfold fb at ht
  rw [aSec_top, sel_pos ht, sel_pos ht]
  unfold seT
  by_cases h : aoW t = 0
  · rw [sel_pos (by rw [ieq_iff]; exact h), sel_pos (okc (by simp only [List.length_cons, List.length_nil]; omega)), sel_pos (okc (by simp only [sc, List.length_append, List.length_cons, List.length_nil]; omega)), if_pos h]
    rfl
  · rw [sel_neg (by rw [← Bool.not_eq_true, ieq_iff]; exact h), if_neg h]
theorem rSec_ev (t : Int) (ht : fb t = true) : Contract uE 15 [.int .i64 t] (.str (seT t)) := by
  refine contract_of_body uE_ok aS0_ok 6 3 ?_
  have l1 := tl t ht
  have l2 := stx_len (aoA 0 t) (aoA 1 t) (aoA 2 t) (aoA 3 t) (aoA 4 t) (aoA 5 t)
  unfold fb at ht
  rw [rSec_top, sel_pos ht, sel_pos ht]
  unfold seT
  by_cases h : aoW t = 0
  · rw [sel_neg (by rw [← Bool.not_eq_true, bnot_iff, Classical.not_not, ieq_iff]; exact h), sel_pos ht, sel_pos (okc (by simp only [List.length_cons, List.length_nil]; omega)), sel_pos (okc (by simp only [sc, List.length_append, List.length_cons, List.length_nil]; omega)), if_pos h]
    simp only [sc, List.append_assoc, List.cons_append, List.nil_append]
  · rw [sel_pos (by rw [bnot_iff, ieq_iff]; exact h), if_neg h]
noncomputable def faT (l e : Int) : List UInt8 := if 0 < l then scat (scat [101, 114, 114, 111, 114, 32] (text e)) (scat [32, 105, 110, 32, 108, 105, 110, 101, 32] (text l)) else scat [101, 114, 114, 111, 114, 32] (text e)
theorem fau_both (l e : Int) (hl : fb l = true) (he : fb e = true) : Contract uE 16 [.agg [.int .i64 l, .int .i64 e]] (.str (faT l e)) ∧ Contract uE 17 [.agg [.int .i64 l, .int .i64 e]] (.str (faT l e)) := by
  have l1 := tl l hl
  have l2 := tl e he
  unfold fb at hl he
  have k1 : okCat [101, 114, 114, 111, 114, 32] (text e) = true := okc (by simp only [List.length_cons, List.length_nil]; omega)
  have k2 : okCat [32, 105, 110, 32, 108, 105, 110, 101, 32] (text l) = true := okc (by simp only [List.length_cons, List.length_nil]; omega)
  have k3 : okCat (scat [101, 114, 114, 111, 114, 32] (text e)) (scat [32, 105, 110, 32, 108, 105, 110, 101, 32] (text l)) = true := okc (by simp only [sc, List.length_append, List.length_cons, List.length_nil]; omega)
  constructor
  · refine contract_of_body uE_ok aS0_ok 6 3 ?_
    rw [aFau_top, sel_pos he, sel_pos k1]
    unfold faT
    by_cases h : 0 < l
    · rw [sel_pos (ilt_t h), sel_pos hl, sel_pos k2, sel_pos k3, if_pos h]
    · rw [sel_neg (ilt_f (by omega)), if_neg h]
  · refine contract_of_body uE_ok aS0_ok 6 3 ?_
    rw [rFau_top, sel_pos he, sel_pos k1]
    unfold faT
    by_cases h : 0 < l
    · rw [sel_pos (ilt_t h), sel_pos hl, sel_pos k2, sel_pos k3, if_pos h]
    · rw [sel_neg (ilt_f (by omega)), if_neg h]
abbrev I5 := Int × Int × Int × Int × List UInt8
def z5 : I5 := (0, 0, 0, 0, [])
noncomputable def riL : List (List UInt8) → I5 × Int
  | [a, b, c, d, e] => if nrW a = 0 then (if nrW b = 0 then (if nrW c = 0 then (if nrW d = 0 then ((nrI a, nrI b, nrI c, nrI d, e), 0) else (z5, nrW d)) else (z5, nrW c)) else (z5, nrW b)) else (z5, nrW a)
  | l => (z5, if l.length < 5 then 5 else 6)
noncomputable def riP (s : List UInt8) : I5 × Int := if ofW s = 0 then riL (Nt.Fld.ofP s).1 else (z5, ofW s)
def riV (p : I5 × Int) : V := .tup [.agg [.int .i64 p.1.1, .int .i64 p.1.2.1, .int .i64 p.1.2.2.1, .int .i64 p.1.2.2.2.1, .str p.1.2.2.2.2], .int .i64 p.2]
theorem tot_mem : ∀ (l : List (List UInt8)) (x : List UInt8), x ∈ l → x.length ≤ totL l
  | y :: l, x, h => by
    have e : totL (y :: l) = y.length + totL l := by unfold totL; rw [List.map_cons, List.sum_cons]
    rw [e]
    rcases List.mem_cons.1 h with rfl | h
    · omega
    · have := tot_mem l x h
      omega
theorem of_mem {s x : List UInt8} (h : x ∈ (Nt.Fld.ofP s).1) : x.length ≤ s.length := by
  have h1 := tot_mem _ _ h
  have h2 := of_tot s [] [] false false
  have h3 : totL ([] : List (List UInt8)) = 0 := rfl
  rw [h3, List.length_nil] at h2
  exact Nat.le_trans h1 (show totL (ofR s [] [] false false).1 ≤ s.length by simpa using h2)
theorem dz {x : Int} (h : x = 0) : decide (x ≠ 0) = false := by rw [decide_eq_false_iff_not]; exact fun q => q h
theorem dn {x : Int} (h : ¬ x = 0) : decide (x ≠ 0) = true := decide_eq_true h
theorem read_both (s : List UInt8) (hs : s.length ≤ 4000) (hm0 : ∀ x ∈ (Nt.Fld.ofP s).1.take 4, x.length ≤ 1000) : Contract uE 10 [.str s] (riV (riP s)) ∧ Contract uE 11 [.str s] (riV (riP s)) := by
  have h4 : ile (slen s) 4000000 = true := ile_t (by rw [slen_nat]; omega)
  have key : evBd uE (evFn uE aS0 6 3) 6 10 [.str s] some = some (riV (riP s)) ∧ evBd uE (evFn uE aS0 6 3) 6 11 [.str s] some = some (riV (riP s)) := by
    rw [aRead_u6_top, rRead_u6_top, sel_pos h4, sel_pos h4]
    unfold riP
    by_cases hw : ofW s = 0
    rotate_left
    · rw [if_neg hw, sel_pos (by rw [bnot_iff, ieq_iff]; exact hw), sel_pos (by rw [bnot_iff, ieq_iff]; exact hw)]
      exact ⟨rfl, rfl⟩
    have w0 : bnot (ieq (ofW s) 0) = false := by rw [← Bool.not_eq_true, bnot_iff, Classical.not_not, ieq_iff]; exact hw
    rw [if_pos hw, sel_neg w0, sel_neg w0]
    have hm : ∀ x ∈ (Nt.Fld.ofP s).1.take 4, x.length ≤ 1000 := hm0
    clear hm0
    have hL : ofL s = strsV (Nt.Fld.ofP s).1 := rfl
    rw [hL]
    generalize (Nt.Fld.ofP s).1 = l at hm ⊢
    have hlen : (strsV l).length = l.length := by unfold strsV; simp
    by_cases h1 : l.length < 5
    · have hr : riL l = (z5, 5) := by
        unfold riL
        split
        · rename_i a b c d e
          simp at h1
        · rw [if_pos h1]
      rw [hr, sel_pos (ilt_t (by rw [llen_nat, hlen]; omega)), sel_pos (ilt_t (by rw [llen_nat, hlen]; omega))]
      exact ⟨rfl, rfl⟩
    have w1 : ilt (llen (strsV l)) 5 = false := ilt_f (by rw [llen_nat, hlen]; omega)
    rw [sel_neg w1, sel_neg w1]
    by_cases h2 : 5 < l.length
    · have hr : riL l = (z5, 6) := by
        unfold riL
        split
        · rename_i a b c d e
          simp at h2
        · rw [if_neg h1]
      rw [hr, sel_pos (ilt_t (by rw [llen_nat, hlen]; omega)), sel_pos (ilt_t (by rw [llen_nat, hlen]; omega))]
      exact ⟨rfl, rfl⟩
    have w2 : ilt 5 (llen (strsV l)) = false := ilt_f (by rw [llen_nat, hlen]; omega)
    rw [sel_neg w2, sel_neg w2]
    match l, h1, h2, hm with
    | [a, b, c, d, e], _, _, hm =>
      have la : ile (slen a) 1000 = true := ile_t (by rw [slen_nat]; have := hm a (by simp); omega)
      have lb : ile (slen b) 1000 = true := ile_t (by rw [slen_nat]; have := hm b (by simp); omega)
      have lc : ile (slen c) 1000 = true := ile_t (by rw [slen_nat]; have := hm c (by simp); omega)
      have ld : ile (slen d) 1000 = true := ile_t (by rw [slen_nat]; have := hm d (by simp); omega)
      have g0 : asStr (acell (lget (strsV [a, b, c, d, e]) 0) 0) = a := rfl
      have g1 : asStr (acell (lget (strsV [a, b, c, d, e]) 1) 0) = b := rfl
      have g2 : asStr (acell (lget (strsV [a, b, c, d, e]) 2) 0) = c := rfl
      have g3 : asStr (acell (lget (strsV [a, b, c, d, e]) 3) 0) = d := rfl
      have g4 : asStr (acell (lget (strsV [a, b, c, d, e]) 4) 0) = e := rfl
      have f0 : asStr (acell (lget (lsub (strsV [a, b, c, d, e]) 0 4) 0) 0) = a := rfl
      have f1 : asStr (acell (lget (lsub (strsV [a, b, c, d, e]) 0 4) 1) 0) = b := rfl
      have f2 : asStr (acell (lget (lsub (strsV [a, b, c, d, e]) 0 4) 2) 0) = c := rfl
      have f3 : asStr (acell (lget (lsub (strsV [a, b, c, d, e]) 0 4) 3) 0) = d := rfl
      have n5 : llen (strsV [a, b, c, d, e]) = 5 := rfl
      have n4 : llen (lsub (strsV [a, b, c, d, e]) 0 4) = 4 := rfl
      have w : ∀ x : Int, bnot (ieq x 0) = decide (x ≠ 0) := fun x => by rw [Bool.eq_iff_iff, bnot_iff, ieq_iff, decide_eq_true_eq]
      have o0 : ∀ x : Int, okApp [] [V.int .i64 x] = true := fun x => rfl
      have o1 : ∀ x y : Int, okApp [V.int .i64 x] [V.int .i64 y] = true := fun x y => rfl
      have o2 : ∀ x y z : Int, okApp [V.int .i64 x, V.int .i64 y] [V.int .i64 z] = true := fun x y z => rfl
      have o3 : ∀ x y z u : Int, okApp [V.int .i64 x, V.int .i64 y, V.int .i64 z] [V.int .i64 u] = true := fun x y z u => rfl
      have bt : ∀ x : Bool, band true x = x := fun _ => rfl
      have e0 : ile 0 0 = true := rfl
      have e1 : ile 0 1 = true := rfl
      have e2 : ile 0 2 = true := rfl
      have e3 : ile 0 3 = true := rfl
      have e4 : ile 0 4 = true := rfl
      have e45 : ile 4 5 = true := rfl
      have u0 : ilt 0 5 = true := rfl
      have u1 : ilt 1 5 = true := rfl
      have u2 : ilt 2 5 = true := rfl
      have u3 : ilt 3 5 = true := rfl
      have u4 : ilt 4 5 = true := rfl
      have t0 : ilt 0 4 = true := rfl
      have t1 : ilt 1 4 = true := rfl
      have t2 : ilt 2 4 = true := rfl
      have t3 : ilt 3 4 = true := rfl
      have t4 : ilt 4 4 = false := rfl
      have sf0 : ∀ x y : Option V, sel false x y = y := fun _ _ => rfl
      simp only [g0, g1, g2, g3, g4, f0, f1, f2, f3, n5, n4, la, lb, lc, ld, o0, o1, o2, o3, bt, e0, e1, e2, e3, e4, e45, u0, u1, u2, u3, u4, t0, t1, t2, t3, t4, w, st0, sf0]
      have hr : riL [a, b, c, d, e] = if nrW a = 0 then (if nrW b = 0 then (if nrW c = 0 then (if nrW d = 0 then ((nrI a, nrI b, nrI c, nrI d, e), 0) else (z5, nrW d)) else (z5, nrW c)) else (z5, nrW b)) else (z5, nrW a) := rfl
      rw [hr]
      by_cases ha : nrW a = 0
      · rw [if_pos ha, dz ha]; simp only [sf0]
        by_cases hb : nrW b = 0
        · rw [if_pos hb, dz hb]; simp only [sf0]
          by_cases hc : nrW c = 0
          · rw [if_pos hc, dz hc]; simp only [sf0]
            by_cases hd : nrW d = 0
            · rw [if_pos hd, dz hd]; simp only [sf0]
              exact ⟨rfl, rfl⟩
            · rw [if_neg hd, dn hd]
              exact ⟨rfl, rfl⟩
          · rw [if_neg hc, dn hc]
            exact ⟨rfl, rfl⟩
        · rw [if_neg hb, dn hb]
          exact ⟨rfl, rfl⟩
      · rw [if_neg ha, dn ha]
        exact ⟨rfl, rfl⟩
    | _ :: _ :: _ :: _ :: _ :: _ :: _, _, h2, _ => exact absurd (by simp) h2
  exact ⟨contract_of_body uE_ok aS0_ok 6 3 key.1, contract_of_body uE_ok aS0_ok 6 3 key.2⟩
noncomputable def naR : List (List UInt8) → List UInt8 → List UInt8 × Int
  | [], t => (t, 0)
  | x :: l, t => if ftW x = 0 then naR l (t ++ 32 :: ftT x) else ([], ftW x)
noncomputable def naP (xs : List V) : List UInt8 × Int := naR (ssV xs) [110, 97, 109, 101, 115]
def naC (xs : List V) : Bool := decide (xs.length ≤ 100 ∧ ∀ x ∈ ssV xs, x.length ≤ 1000)
theorem restJ_snoc (c : List UInt8) (l : List V) (y : List UInt8) : restJ c (l ++ [V.str y]) = restJ c l ++ (c ++ y) := by
  unfold restJ
  rw [List.map_append, List.flatten_append]
  simp only [List.map_cons, List.map_nil, List.flatten_cons, List.flatten_nil, List.append_nil]
  rfl
theorem ss_get (xs : List V) (i : Nat) (h : i < xs.length) : (ssV xs).drop i = asStr (acell (lget xs (i : Int)) 0) :: (ssV xs).drop (i + 1) := by
  have hs : ssV xs = xs.map fun x => asStr (acell x 0) := rfl
  rw [hs, ← List.map_drop, List.drop_eq_getElem_cons h, List.map_cons, List.map_drop, lget_nat, List.getD_eq_getElem?_getD, List.getElem?_eq_getElem h]
  rfl
theorem ss_len (xs : List V) : (ssV xs).length = xs.length := by unfold ssV; simp
theorem nam_loop (xs : List V) (hx : ∀ x ∈ ssV xs, x.length ≤ 1000) (hn : xs.length ≤ 100) (x2 : List UInt8) (x3 : Int) (F : Nat) : ∀ (j i n : Nat) (L : List V) (t : List UInt8), i + j = xs.length → j < n → L.length ≤ 200 → t.length ≤ 100 + 1100 * i → 0 < L.length → joinS L [32] = t → L.length = i + 1 →
    aNam_L0 F [] n xs x2 x3 L xs (llen xs) (i : Int) some = some (.tup [.str (naR ((ssV xs).drop i) t).1, .int .i64 (naR ((ssV xs).drop i) t).2]) ∧
    rNam_L0 F [] n xs x2 x3 t xs (llen xs) (i : Int) some = some (.tup [.str (naR ((ssV xs).drop i) t).1, .int .i64 (naR ((ssV xs).drop i) t).2]) := by
  intro j
  induction j with
  | zero =>
    intro i n L t hi hn' hL ht h0 hj hLi
    obtain ⟨n, rfl⟩ : ∃ m, n = m + 1 := ⟨n - 1, by omega⟩
    have hb : jnB L [32] = true := by
      unfold jnB
      rw [decide_eq_true_eq, hj]
      simp only [List.length_cons, List.length_nil]
      omega
    rw [aNam_L0_succ, rNam_L0_succ, sel_neg (ilt_f (by rw [llen_nat]; omega)), sel_neg (ilt_f (by rw [llen_nat]; omega)), List.drop_of_length_le (by rw [ss_len]; omega), sel_pos (by rw [band_iff]; exact ⟨rfl, hb⟩), hj]
    exact ⟨rfl, rfl⟩
  | succ j ih =>
    intro i n L t hi hn' hL ht h0 hj hLi
    obtain ⟨n, rfl⟩ : ∃ m, n = m + 1 := ⟨n - 1, by omega⟩
    have hd := ss_get xs i (by omega)
    obtain ⟨y, hy⟩ : ∃ y, asStr (acell (lget xs (i : Int)) 0) = y := ⟨_, rfl⟩
    rw [hy] at hd
    have hyl : y.length ≤ 1000 := hx y (List.mem_of_mem_drop (by rw [hd]; exact List.mem_cons_self))
    have hfl := ftl y
    have hI : iadd .i64 (i : Int) 1 = ((i + 1 : Nat) : Int) := by rw [iadd64 (by omega)]; omega
    have p1 : ilt (i : Int) (llen xs) = true := ilt_t (by rw [llen_nat]; omega)
    have p2 : band (ile 0 (i : Int)) (ilt (i : Int) (llen xs)) = true := by rw [band_iff, ile_iff, ilt_iff, llen_nat]; omega
    have p3 : ile (slen y) 4000000 = true := ile_t (by rw [slen_nat]; omega)
    rw [aNam_L0_succ, rNam_L0_succ, hd, naR, hy, hI]
    rw [sel_pos p1, sel_pos p1, sel_pos p2, sel_pos p2, sel_pos p3, sel_pos p3]
    by_cases hw : ftW y = 0
    · have q : bnot (ieq (ftW y) 0) = false := by rw [← Bool.not_eq_true, bnot_iff, Classical.not_not, ieq_iff]; exact hw
      have hjn : joinS (lcat L [V.str (ftT y)]) [32] = t ++ 32 :: ftT y := by
        match L, h0, hj with
        | x :: l, _, hj =>
          have hj : Nt.Ev.YtdhegeecbbponaaDoor.strV x ++ restJ [32] l = t := hj
          show Nt.Ev.YtdhegeecbbponaaDoor.strV x ++ restJ [32] (l ++ [V.str (ftT y)]) = _
          rw [restJ_snoc, ← List.append_assoc, hj]; rfl
      obtain ⟨k1, k2⟩ := ih (i + 1) n (lcat L [V.str (ftT y)]) (t ++ 32 :: ftT y) (by omega) (by omega) (by unfold lcat; rw [List.length_append, List.length_singleton]; omega) (by rw [List.length_append, List.length_cons]; omega) (by unfold lcat; rw [List.length_append, List.length_singleton]; omega) hjn (by unfold lcat; rw [List.length_append, List.length_singleton]; omega)
      have r1 : okApp L [V.str (ftT y)] = true := by rw [okApp_iff, List.length_singleton]; omega
      have r2 : okCat [32] (ftT y) = true := okc (by simp only [List.length_cons, List.length_nil]; omega)
      have r3 : okCat t (scat [32] (ftT y)) = true := okc (by simp only [sc, List.length_append, List.length_cons, List.length_nil]; omega)
      rw [sel_neg q, sel_neg q, sel_pos r1, sel_pos r2, sel_pos r3, if_pos hw]
      exact ⟨k1, k2⟩
    · have q : bnot (ieq (ftW y) 0) = true := by rw [bnot_iff, ieq_iff]; exact hw
      rw [sel_pos q, sel_pos q, if_neg hw]
      exact ⟨rfl, rfl⟩
theorem names_both (xs : List V) (hc : naC xs = true) : Contract uE 12 [.sl 9 [.str] none xs] (.tup [.str (naP xs).1, .int .i64 (naP xs).2]) ∧ Contract uE 13 [.sl 9 [.str] none xs] (.tup [.str (naP xs).1, .int .i64 (naP xs).2]) := by
  unfold naC at hc
  rw [decide_eq_true_eq] at hc
  obtain ⟨k1, k2⟩ := nam_loop xs hc.2 hc.1 [] 0 (xs.length + 2) xs.length 0 (xs.length + 2) [V.str [110, 97, 109, 101, 115]] [110, 97, 109, 101, 115] (by omega) (by omega) (by simp) (by simp) (by simp) rfl rfl
  exact ⟨contract_of_body uE_ok aS0_ok (xs.length + 2) 3 (by rw [aNam_top]; exact k1), contract_of_body uE_ok aS0_ok (xs.length + 2) 3 (by rw [rNam_top]; exact k2)⟩
end Nt.Ev.YtdhegeecbbponaaDoor.An

set_option linter.unusedVariables false
set_option linter.unusedSimpArgs false
set_option linter.unusedSectionVars false
namespace Nt.Ev.YtdhegeecbbponaaDoor.An
open Go Nt.Num Go.Proofs.YtdhegeecbbponaaDoor
open Nt.Ev.YtdhegeecbbponaaDoor
noncomputable def aInS : FSpec := fun a => match a with | [.agg [.int .i64 a, .int .i64 b, .int .i64 c, .int .i64 d, .str s]] => some (band (ile (slen s) 1000) (band (band (fb a) (fb b)) (band (fb c) (fb d))), .tup [.str (inT a b c d s), .int .i64 (ftW s)]) | _ => none
noncomputable def aS1 : List (Nat × FSpec) := (6, aInS) :: (7, aInS) :: aS0
set_option maxRecDepth 100000 in
theorem aLoc_u4_top (k : Int) (a : Int) (b : Int) (c : Int) (d : Int) (s : List UInt8) (e : Int) (f : Int) (g : Int) (h : Int) (t : List UInt8) (K : V → Option V) :
 evBd uE (evFn uE aS1 4 3) 4 8 [(V.agg [(V.int .i64 k), (V.int .i64 a), (V.int .i64 b), (V.int .i64 c), (V.int .i64 d), (V.str s), (V.int .i64 e), (V.int .i64 f), (V.int .i64 g), (V.int .i64 h), (V.str t)])] K =
 sel (ieq k 1)
 (sel (band (ile (slen s) 1000) (band (band (band (ile (-9223372036854775808) a) (ile a 9223372036854775807)) (band (ile (-9223372036854775808) b) (ile b 9223372036854775807))) (band (band (ile (-9223372036854775808) c) (ile c 9223372036854775807)) (band (ile (-9223372036854775808) d) (ile d 9223372036854775807)))))
 (sel (bnot (ieq (ftW s) 0))
 (K (V.tup [(V.str []), (V.int .i64 (ftW s))]))
 (sel (okApp [] [(V.str (inT a b c d s))])
 (sel (band true (jnB [(V.str (inT a b c d s))] [32, 47, 32]))
 (sel (okCat [111, 110, 101, 32] (joinS [(V.str (inT a b c d s))] [32, 47, 32]))
 (K (V.tup [(V.str (scat [111, 110, 101, 32] (joinS [(V.str (inT a b c d s))] [32, 47, 32]))), (V.int .i64 0)]))
 (none))
 (none))
 (none)))
 (none))
 (sel (ieq k 2)
 (sel (band (ile (slen s) 1000) (band (band (band (ile (-9223372036854775808) a) (ile a 9223372036854775807)) (band (ile (-9223372036854775808) b) (ile b 9223372036854775807))) (band (band (ile (-9223372036854775808) c) (ile c 9223372036854775807)) (band (ile (-9223372036854775808) d) (ile d 9223372036854775807)))))
 (sel (bnot (ieq (ftW s) 0))
 (K (V.tup [(V.str []), (V.int .i64 (ftW s))]))
 (sel (okApp [] [(V.str (inT a b c d s))])
 (sel (band (ile (slen t) 1000) (band (band (band (ile (-9223372036854775808) e) (ile e 9223372036854775807)) (band (ile (-9223372036854775808) f) (ile f 9223372036854775807))) (band (band (ile (-9223372036854775808) g) (ile g 9223372036854775807)) (band (ile (-9223372036854775808) h) (ile h 9223372036854775807)))))
 (sel (bnot (ieq (ftW t) 0))
 (K (V.tup [(V.str []), (V.int .i64 (ftW t))]))
 (sel (okApp [(V.str (inT a b c d s))] [(V.str (inT e f g h t))])
 (sel (band true (jnB [(V.str (inT a b c d s)), (V.str (inT e f g h t))] [32, 47, 32]))
 (sel (okCat [110, 111, 110, 101, 32] (joinS [(V.str (inT a b c d s)), (V.str (inT e f g h t))] [32, 47, 32]))
 (K (V.tup [(V.str (scat [110, 111, 110, 101, 32] (joinS [(V.str (inT a b c d s)), (V.str (inT e f g h t))] [32, 47, 32]))), (V.int .i64 0)]))
 (none))
 (none))
 (none)))
 (none))
 (none)))
 (none))
 (sel (ieq k 3)
 (sel (band (ile (slen s) 1000) (band (band (band (ile (-9223372036854775808) a) (ile a 9223372036854775807)) (band (ile (-9223372036854775808) b) (ile b 9223372036854775807))) (band (band (ile (-9223372036854775808) c) (ile c 9223372036854775807)) (band (ile (-9223372036854775808) d) (ile d 9223372036854775807)))))
 (sel (bnot (ieq (ftW s) 0))
 (K (V.tup [(V.str []), (V.int .i64 (ftW s))]))
 (sel (okApp [] [(V.str (inT a b c d s))])
 (sel (band (ile (slen t) 1000) (band (band (band (ile (-9223372036854775808) e) (ile e 9223372036854775807)) (band (ile (-9223372036854775808) f) (ile f 9223372036854775807))) (band (band (ile (-9223372036854775808) g) (ile g 9223372036854775807)) (band (ile (-9223372036854775808) h) (ile h 9223372036854775807)))))
 (sel (bnot (ieq (ftW t) 0))
 (K (V.tup [(V.str []), (V.int .i64 (ftW t))]))
 (sel (okApp [(V.str (inT a b c d s))] [(V.str (inT e f g h t))])
 (sel (band true (jnB [(V.str (inT a b c d s)), (V.str (inT e f g h t))] [32, 47, 32]))
 (sel (okCat [116, 119, 111, 32] (joinS [(V.str (inT a b c d s)), (V.str (inT e f g h t))] [32, 47, 32]))
 (K (V.tup [(V.str (scat [116, 119, 111, 32] (joinS [(V.str (inT a b c d s)), (V.str (inT e f g h t))] [32, 47, 32]))), (V.int .i64 0)]))
 (none))
 (none))
 (none)))
 (none))
 (none)))
 (none))
 (K (V.tup [(V.str []), (V.int .i64 4)])))) := by kernel_rfl
set_option maxRecDepth 100000 in
theorem rLoc_top (F : Nat) (k : Int) (a : Int) (b : Int) (c : Int) (d : Int) (s : List UInt8) (e : Int) (f : Int) (g : Int) (h : Int) (t : List UInt8) (K : V → Option V) :
 evBd uE (evFn uE aS1 F 3) F 9 [(V.agg [(V.int .i64 k), (V.int .i64 a), (V.int .i64 b), (V.int .i64 c), (V.int .i64 d), (V.str s), (V.int .i64 e), (V.int .i64 f), (V.int .i64 g), (V.int .i64 h), (V.str t)])] K =
 sel (ilt k 1)
 (K (V.tup [(V.str []), (V.int .i64 4)]))
 (sel (ilt 3 k)
 (K (V.tup [(V.str []), (V.int .i64 4)]))
 (sel (band (ile (slen s) 1000) (band (band (band (ile (-9223372036854775808) a) (ile a 9223372036854775807)) (band (ile (-9223372036854775808) b) (ile b 9223372036854775807))) (band (band (ile (-9223372036854775808) c) (ile c 9223372036854775807)) (band (ile (-9223372036854775808) d) (ile d 9223372036854775807)))))
 (sel (bnot (ieq (ftW s) 0))
 (K (V.tup [(V.str []), (V.int .i64 (ftW s))]))
 (sel (ieq k 1)
 (sel (okCat [111, 110, 101, 32] (inT a b c d s))
 (K (V.tup [(V.str (scat [111, 110, 101, 32] (inT a b c d s))), (V.int .i64 0)]))
 (none))
 (sel (band (ile (slen t) 1000) (band (band (band (ile (-9223372036854775808) e) (ile e 9223372036854775807)) (band (ile (-9223372036854775808) f) (ile f 9223372036854775807))) (band (band (ile (-9223372036854775808) g) (ile g 9223372036854775807)) (band (ile (-9223372036854775808) h) (ile h 9223372036854775807)))))
 (sel (bnot (ieq (ftW t) 0))
 (K (V.tup [(V.str []), (V.int .i64 (ftW t))]))
 (sel (band (ile 0 k) (ilt k (llen [(V.str []), (V.str [111, 110, 101]), (V.str [110, 111, 110, 101]), (V.str [116, 119, 111])])))
 (sel (okCat (asStr (acell (lget [(V.str []), (V.str [111, 110, 101]), (V.str [110, 111, 110, 101]), (V.str [116, 119, 111])] k) 0)) [32])
 (sel (okCat (scat (asStr (acell (lget [(V.str []), (V.str [111, 110, 101]), (V.str [110, 111, 110, 101]), (V.str [116, 119, 111])] k) 0)) [32]) (inT a b c d s))
 (sel (okCat (scat (scat (asStr (acell (lget [(V.str []), (V.str [111, 110, 101]), (V.str [110, 111, 110, 101]), (V.str [116, 119, 111])] k) 0)) [32]) (inT a b c d s)) [32, 47, 32])
 (sel (okCat (scat (scat (scat (asStr (acell (lget [(V.str []), (V.str [111, 110, 101]), (V.str [110, 111, 110, 101]), (V.str [116, 119, 111])] k) 0)) [32]) (inT a b c d s)) [32, 47, 32]) (inT e f g h t))
 (K (V.tup [(V.str (scat (scat (scat (scat (asStr (acell (lget [(V.str []), (V.str [111, 110, 101]), (V.str [110, 111, 110, 101]), (V.str [116, 119, 111])] k) 0)) [32]) (inT a b c d s)) [32, 47, 32]) (inT e f g h t))), (V.int .i64 0)]))
 (none))
 (none))
 (none))
 (none))
 (none)))
 (none))))
 (none))) := by kernel_rfl
end Nt.Ev.YtdhegeecbbponaaDoor.An

set_option linter.unusedVariables false
set_option linter.unusedSimpArgs false
set_option linter.unusedSectionVars false
namespace Nt.Ev.YtdhegeecbbponaaDoor.An
set_option maxRecDepth 100000
open Go Go.RowKit Nt Nt.Num Nt.Fld Nt.Civil Nt.Ev.YtdhegeecbbponaaDoor Go.Proofs.YtdhegeecbbponaaDoor
theorem fb4 {a b c d : Int} {s : List UInt8} (h : band (ile (slen s) 1000) (band (band (fb a) (fb b)) (band (fb c) (fb d))) = true) : s.length ≤ 1000 ∧ fb a = true ∧ fb b = true ∧ fb c = true ∧ fb d = true := by
  rw [band_iff, band_iff, band_iff, band_iff, ile_iff, slen_nat] at h
  exact ⟨by omega, h.2.1.1, h.2.1.2, h.2.2.1, h.2.2.2⟩
theorem aInS_ok (a b c d : Int) (s : List UInt8) (hc : band (ile (slen s) 1000) (band (band (fb a) (fb b)) (band (fb c) (fb d))) = true) : Contract uE 6 [.agg [.int .i64 a, .int .i64 b, .int .i64 c, .int .i64 d, .str s]] (.tup [.str (inT a b c d s), .int .i64 (ftW s)]) := by
  obtain ⟨h1, h2, h3, h4, h5⟩ := fb4 hc
  exact aInfo_ev a b c d s h1 h2 h3 h4 h5
theorem aInS_ok_noontideref45_Info (a b c d : Int) (s : List UInt8) (hc : band (ile (slen s) 1000) (band (band (fb a) (fb b)) (band (fb c) (fb d))) = true) : Contract uE 7 [.agg [.int .i64 a, .int .i64 b, .int .i64 c, .int .i64 d, .str s]] (.tup [.str (inT a b c d s), .int .i64 (ftW s)]) := by
  obtain ⟨h1, h2, h3, h4, h5⟩ := fb4 hc
  exact rInfo_ev a b c d s h1 h2 h3 h4 h5
theorem aS1_ok : SOk uE aS1 := by
  unfold aS1
  refine SOk.cons (fun args r h => ?_) (SOk.cons (fun args r h => ?_) (aS0_ok))
  · unfold aInS at h
    split at h
    · simp only [Option.some.injEq, Prod.mk.injEq] at h
      obtain ⟨hc, rfl⟩ := h
      exact aInS_ok _ _ _ _ _ hc
    · cases h
  · unfold aInS at h
    split at h
    · simp only [Option.some.injEq, Prod.mk.injEq] at h
      obtain ⟨hc, rfl⟩ := h
      exact aInS_ok_noontideref45_Info _ _ _ _ _ hc
    · cases h
theorem inT_len (a b c d : Int) (s : List UInt8) (hs : s.length ≤ 1000) (ha : fb a = true) (hb : fb b = true) (hc : fb c = true) (hd : fb d = true) : (inT a b c d s).length ≤ 1100 := by
  have la := tl a ha
  have lb := tl b hb
  have lc := tl c hc
  have ld := tl d hd
  have lf := ftl s
  unfold inT
  split
  · simp only [List.length_append, List.length_cons]; omega
  · exact Nat.zero_le _
def loP (k : Int) (A : List UInt8) (wa : Int) (B : List UInt8) (wb : Int) : List UInt8 × Int :=
  if k = 1 then (if wa = 0 then ([111, 110, 101, 32] ++ A, 0) else ([], wa))
  else if k = 2 ∨ k = 3 then (if wa = 0 then (if wb = 0 then ((if k = 2 then [110, 111, 110, 101, 32] else [116, 119, 111, 32]) ++ (A ++ ([32, 47, 32] ++ B)), 0) else ([], wb)) else ([], wa))
  else ([], 4)
theorem j1 (A c : List UInt8) : joinS [V.str A] c = A := List.append_nil A
theorem j2 (A B c : List UInt8) : joinS [V.str A, V.str B] c = A ++ (c ++ B) := by
  show A ++ (c ++ B ++ []) = _
  rw [List.append_nil]
theorem loc_both (k a b c d : Int) (s : List UInt8) (e f g h : Int) (t : List UInt8) (hs : s.length ≤ 1000) (ht : t.length ≤ 1000) (ha : fb a = true) (hb : fb b = true) (hc : fb c = true) (hd : fb d = true) (he : fb e = true) (hf : fb f = true) (hg : fb g = true) (hh : fb h = true) :
    Contract uE 8 [.agg [.int .i64 k, .int .i64 a, .int .i64 b, .int .i64 c, .int .i64 d, .str s, .int .i64 e, .int .i64 f, .int .i64 g, .int .i64 h, .str t]] (.tup [.str (loP k (inT a b c d s) (ftW s) (inT e f g h t) (ftW t)).1, .int .i64 (loP k (inT a b c d s) (ftW s) (inT e f g h t) (ftW t)).2]) ∧
    Contract uE 9 [.agg [.int .i64 k, .int .i64 a, .int .i64 b, .int .i64 c, .int .i64 d, .str s, .int .i64 e, .int .i64 f, .int .i64 g, .int .i64 h, .str t]] (.tup [.str (loP k (inT a b c d s) (ftW s) (inT e f g h t) (ftW t)).1, .int .i64 (loP k (inT a b c d s) (ftW s) (inT e f g h t) (ftW t)).2]) := by
  have lA := inT_len a b c d s hs ha hb hc hd
  have lB := inT_len e f g h t ht he hf hg hh
  have c1 : band (ile (slen s) 1000) (band (band (band (ile (-9223372036854775808) a) (ile a 9223372036854775807)) (band (ile (-9223372036854775808) b) (ile b 9223372036854775807))) (band (band (ile (-9223372036854775808) c) (ile c 9223372036854775807)) (band (ile (-9223372036854775808) d) (ile d 9223372036854775807)))) = true := by
    show band (ile (slen s) 1000) (band (band (fb a) (fb b)) (band (fb c) (fb d))) = true
    rw [band_iff, band_iff, band_iff, band_iff]
    exact ⟨ile_t (by rw [slen_nat]; omega), ⟨ha, hb⟩, hc, hd⟩
  have c2 : band (ile (slen t) 1000) (band (band (band (ile (-9223372036854775808) e) (ile e 9223372036854775807)) (band (ile (-9223372036854775808) f) (ile f 9223372036854775807))) (band (band (ile (-9223372036854775808) g) (ile g 9223372036854775807)) (band (ile (-9223372036854775808) h) (ile h 9223372036854775807)))) = true := by
    show band (ile (slen t) 1000) (band (band (fb e) (fb f)) (band (fb g) (fb h))) = true
    rw [band_iff, band_iff, band_iff, band_iff]
    exact ⟨ile_t (by rw [slen_nat]; omega), ⟨he, hf⟩, hg, hh⟩
  obtain ⟨A, hA⟩ : ∃ A, inT a b c d s = A := ⟨_, rfl⟩
  obtain ⟨B, hB⟩ : ∃ B, inT e f g h t = B := ⟨_, rfl⟩
  rw [hA] at lA
  rw [hB] at lB
  rw [hA, hB]
  have o1 : okApp [] [V.str A] = true := rfl
  have o2 : okApp [V.str A] [V.str B] = true := rfl
  have n1 : band true (jnB [V.str A] [32, 47, 32]) = true := by
    rw [band_iff]
    refine ⟨rfl, ?_⟩
    unfold jnB
    rw [decide_eq_true_eq, j1]
    simp only [List.length_cons, List.length_nil]; omega
  have n2 : band true (jnB [V.str A, V.str B] [32, 47, 32]) = true := by
    rw [band_iff]
    refine ⟨rfl, ?_⟩
    unfold jnB
    rw [decide_eq_true_eq, j2]
    simp only [List.length_append, List.length_cons, List.length_nil]; omega
  have key : ∀ x y : List UInt8, x.length ≤ 5000 → y.length ≤ 5000 → okCat x y = true := fun x y h1 h2 => okc (by omega)
  have w : ∀ x : Int, bnot (ieq x 0) = decide (x ≠ 0) := fun x => by rw [Bool.eq_iff_iff, bnot_iff, ieq_iff, decide_eq_true_eq]
  have sf0 : ∀ x y : Option V, sel false x y = y := fun _ _ => rfl
  obtain ⟨wa, hwa⟩ : ∃ wa, ftW s = wa := ⟨_, rfl⟩
  obtain ⟨wb, hwb⟩ : ∃ wb, ftW t = wb := ⟨_, rfl⟩
  have kk : evBd uE (evFn uE aS1 4 3) 4 8 [.agg [.int .i64 k, .int .i64 a, .int .i64 b, .int .i64 c, .int .i64 d, .str s, .int .i64 e, .int .i64 f, .int .i64 g, .int .i64 h, .str t]] some = some (.tup [.str (loP k A (ftW s) B (ftW t)).1, .int .i64 (loP k A (ftW s) B (ftW t)).2]) ∧
      evBd uE (evFn uE aS1 4 3) 4 9 [.agg [.int .i64 k, .int .i64 a, .int .i64 b, .int .i64 c, .int .i64 d, .str s, .int .i64 e, .int .i64 f, .int .i64 g, .int .i64 h, .str t]] some = some (.tup [.str (loP k A (ftW s) B (ftW t)).1, .int .i64 (loP k A (ftW s) B (ftW t)).2]) := by
    have i11 : ieq 1 1 = true := rfl
    have i21 : ieq 2 1 = false := rfl
    have i22 : ieq 2 2 = true := rfl
    have i31 : ieq 3 1 = false := rfl
    have i32 : ieq 3 2 = false := rfl
    have i33 : ieq 3 3 = true := rfl
    have l11 : ilt 1 1 = false := rfl
    have l21 : ilt 2 1 = false := rfl
    have l31 : ilt 3 1 = false := rfl
    have l32 : ilt 3 2 = false := rfl
    have l33 : ilt 3 3 = false := rfl
    have q2 : band (ile 0 2) (ilt 2 (llen [(V.str []), (V.str [111, 110, 101]), (V.str [110, 111, 110, 101]), (V.str [116, 119, 111])])) = true := rfl
    have q3 : band (ile 0 3) (ilt 3 (llen [(V.str []), (V.str [111, 110, 101]), (V.str [110, 111, 110, 101]), (V.str [116, 119, 111])])) = true := rfl
    have g2 : asStr (acell (lget [(V.str []), (V.str [111, 110, 101]), (V.str [110, 111, 110, 101]), (V.str [116, 119, 111])] 2) 0) = [110, 111, 110, 101] := rfl
    have g3 : asStr (acell (lget [(V.str []), (V.str [111, 110, 101]), (V.str [110, 111, 110, 101]), (V.str [116, 119, 111])] 3) 0) = [116, 119, 111] := rfl
    have lp2 : loP 2 A wa B wb = (if wa = 0 then (if wb = 0 then ([110, 111, 110, 101, 32] ++ (A ++ ([32, 47, 32] ++ B)), 0) else ([], wb)) else ([], wa)) := rfl
    have lp3 : loP 3 A wa B wb = (if wa = 0 then (if wb = 0 then ([116, 119, 111, 32] ++ (A ++ ([32, 47, 32] ++ B)), 0) else ([], wb)) else ([], wa)) := rfl
    have lp1 : loP 1 A wa B wb = (if wa = 0 then ([111, 110, 101, 32] ++ A, 0) else ([], wa)) := rfl
    rw [aLoc_u4_top, rLoc_top, hwa, hwb, hA, hB]
    by_cases k1 : k = 1
    · subst k1
      rw [lp1]
      by_cases ha : wa = 0
      · simp (disch := ((try simp only [sc, List.length_append, List.length_cons, List.length_nil]); omega)) only [c1, c2, o1, o2, n1, n2, j1, j2, w, st0, sf0, i11, l11, l31, dz ha, if_pos ha, key, sc] <;> (try exact ⟨rfl, rfl⟩) <;> (try simp)
      · simp only [c1, c2, o1, o2, n1, n2, j1, j2, w, st0, sf0, i11, l11, l31, dn ha, if_neg ha] <;> (try exact ⟨rfl, rfl⟩) <;> (try simp)
    by_cases k2 : k = 2
    · subst k2
      rw [lp2]
      by_cases ha : wa = 0
      · by_cases hb : wb = 0
        · simp (disch := ((try simp only [sc, List.length_append, List.length_cons, List.length_nil]); omega)) only [c1, c2, o1, o2, n1, n2, j1, j2, w, st0, sf0, i21, i22, l21, l32, dz ha, if_pos ha, dz hb, if_pos hb, q2, g2, key, sc] <;> (try exact ⟨rfl, rfl⟩) <;> (try simp)
        · simp only [c1, c2, o1, o2, n1, n2, j1, j2, w, st0, sf0, i21, i22, l21, l32, dz ha, if_pos ha, dn hb, if_neg hb] <;> (try exact ⟨rfl, rfl⟩) <;> (try simp)
      · simp only [c1, c2, o1, o2, n1, n2, j1, j2, w, st0, sf0, i21, i22, l21, l32, dn ha, if_neg ha] <;> (try exact ⟨rfl, rfl⟩) <;> (try simp)
    by_cases k3 : k = 3
    · subst k3
      rw [lp3]
      by_cases ha : wa = 0
      · by_cases hb : wb = 0
        · simp (disch := ((try simp only [sc, List.length_append, List.length_cons, List.length_nil]); omega)) only [c1, c2, o1, o2, n1, n2, j1, j2, w, st0, sf0, i31, i32, i33, l31, l33, dz ha, if_pos ha, dz hb, if_pos hb, q3, g3, key, sc] <;> (try exact ⟨rfl, rfl⟩) <;> (try simp)
        · simp only [c1, c2, o1, o2, n1, n2, j1, j2, w, st0, sf0, i31, i32, i33, l31, l33, dz ha, if_pos ha, dn hb, if_neg hb] <;> (try exact ⟨rfl, rfl⟩) <;> (try simp)
      · simp only [c1, c2, o1, o2, n1, n2, j1, j2, w, st0, sf0, i31, i32, i33, l31, l33, dn ha, if_neg ha] <;> (try exact ⟨rfl, rfl⟩) <;> (try simp)
    have n1 : ieq k 1 = false := by rw [← Bool.not_eq_true, ieq_iff]; exact k1
    have n2 : ieq k 2 = false := by rw [← Bool.not_eq_true, ieq_iff]; exact k2
    have n3 : ieq k 3 = false := by rw [← Bool.not_eq_true, ieq_iff]; exact k3
    have lp : loP k A wa B wb = ([], 4) := by unfold loP; rw [if_neg k1, if_neg (by omega)]
    rw [lp, n1, n2, n3]
    refine ⟨rfl, ?_⟩
    by_cases hk : k < 1
    · rw [sel_pos (ilt_t hk)]
    · rw [sel_neg (ilt_f (by omega)), sel_pos (ilt_t (by omega))]
  exact ⟨contract_of_body uE_ok aS1_ok 4 3 kk.1, contract_of_body uE_ok aS1_ok 4 3 kk.2⟩
end Nt.Ev.YtdhegeecbbponaaDoor.An

set_option linter.unusedVariables false
set_option linter.unusedSimpArgs false
set_option linter.unusedSectionVars false
namespace Nt.Ev.YtdhegeecbbponaaDoor.An
open Go Nt.Num Go.Proofs.YtdhegeecbbponaaDoor
open Nt.Ev.YtdhegeecbbponaaDoor
noncomputable def isSt : V → Bool | .nilsl => true | .sl e sh o xs => e == 9 && Kd.eqL [.str] sh | _ => false
noncomputable def stsOf : V → List V | .sl _ _ _ xs => xs | _ => []
noncomputable def loT (k a b c d : Int) (s : List UInt8) (e f g h : Int) (t : List UInt8) : List UInt8 := (loP k (inT a b c d s) (ftW s) (inT e f g h t) (ftW t)).1
noncomputable def loW (k a b c d : Int) (s : List UInt8) (e f g h : Int) (t : List UInt8) : Int := (loP k (inT a b c d s) (ftW s) (inT e f g h t) (ftW t)).2
noncomputable def ri0 (s : List UInt8) : Int := (riP s).1.1
noncomputable def ri1 (s : List UInt8) : Int := (riP s).1.2.1
noncomputable def ri2 (s : List UInt8) : Int := (riP s).1.2.2.1
noncomputable def ri3 (s : List UInt8) : Int := (riP s).1.2.2.2.1
noncomputable def riS (s : List UInt8) : List UInt8 := (riP s).1.2.2.2.2
noncomputable def riW (s : List UInt8) : Int := (riP s).2
def riC (s : List UInt8) : Bool := decide (s.length ≤ 4000 ∧ ∀ x ∈ (Nt.Fld.ofP s).1.take 4, x.length ≤ 1000)
noncomputable def naT (xs : List V) : List UInt8 := (naP xs).1
noncomputable def naW (xs : List V) : Int := (naP xs).2
noncomputable def aLoS : FSpec := fun a => match a with | [.agg [.int .i64 k, .int .i64 a, .int .i64 b, .int .i64 c, .int .i64 d, .str s, .int .i64 e, .int .i64 f, .int .i64 g, .int .i64 h, .str t]] => some (band (band (ile (slen s) 1000) (band (band (fb a) (fb b)) (band (fb c) (fb d)))) (band (ile (slen t) 1000) (band (band (fb e) (fb f)) (band (fb g) (fb h)))), .tup [.str (loT k a b c d s e f g h t), .int .i64 (loW k a b c d s e f g h t)]) | _ => none
noncomputable def aRiS : FSpec := fun a => match a with | [.str s] => some (riC s, .tup [.agg [.int .i64 (ri0 s), .int .i64 (ri1 s), .int .i64 (ri2 s), .int .i64 (ri3 s), .str (riS s)], .int .i64 (riW s)]) | _ => none
noncomputable def aSeS : FSpec := fun a => match a with | [.int .i64 t] => some (fb t, .str (seT t)) | _ => none
noncomputable def aFaS : FSpec := fun a => match a with | [.agg [.int .i64 l, .int .i64 e]] => some (band (fb l) (fb e), .str (faT l e)) | _ => none
noncomputable def aNaS : FSpec := fun a => match a with | [x] => some (band (isSt x) (naC (stsOf x)), .tup [.str (naT (stsOf x)), .int .i64 (naW (stsOf x))]) | _ => none
noncomputable def aLvS : FSpec := fun a => match a with | [] => some (true, .bool true) | _ => none
noncomputable def aLd : List (Nat × FSpec) := (8, aLoS) :: (9, aLoS) :: (10, aRiS) :: (11, aRiS) :: (14, aSeS) :: (15, aSeS) :: (16, aFaS) :: (17, aFaS) :: (12, aNaS) :: (13, aNaS) :: aS1
noncomputable def aL : List (Nat × FSpec) := (5, aLvS) :: aLd
set_option maxRecDepth 100000 in
theorem l45B_top (F : Nat) (k : Int) (a : Int) (b : Int) (c : Int) (d : Int) (s : List UInt8) (e : Int) (f : Int) (g : Int) (h : Int) (t : List UInt8) (u : List UInt8) (K : V → Option V) :
 evBd uE (evFn uE aL F 2) F 4 [(V.agg [(V.int .i64 k), (V.int .i64 a), (V.int .i64 b), (V.int .i64 c), (V.int .i64 d), (V.str s), (V.int .i64 e), (V.int .i64 f), (V.int .i64 g), (V.int .i64 h), (V.str t)]), (V.str u)] K =
 sel (ilt 1000 (iadd .i64 (iadd .i64 (slen s) (slen t)) (slen u)))
 (K (V.bool true))
 (sel (band (ile (slen s) 1000) (band (band (band (ile (-9223372036854775808) a) (ile a 9223372036854775807)) (band (ile (-9223372036854775808) b) (ile b 9223372036854775807))) (band (band (ile (-9223372036854775808) c) (ile c 9223372036854775807)) (band (ile (-9223372036854775808) d) (ile d 9223372036854775807)))))
 (sel (band (ile (slen t) 1000) (band (band (band (ile (-9223372036854775808) e) (ile e 9223372036854775807)) (band (ile (-9223372036854775808) f) (ile f 9223372036854775807))) (band (band (ile (-9223372036854775808) g) (ile g 9223372036854775807)) (band (ile (-9223372036854775808) h) (ile h 9223372036854775807)))))
 (sel (ieq (ftW s) 0)
 (sel (riC (inT a b c d s))
 (sel (bnot (band (band (ieq (ri0 (inT a b c d s)) a) (ieq (ri1 (inT a b c d s)) b)) (band (ieq (ri2 (inT a b c d s)) c) (band (ieq (ri3 (inT a b c d s)) d) (seq (riS (inT a b c d s)) s)))))
 (K (V.bool false))
 (sel (bnot (ieq (riW (inT a b c d s)) 0))
 (K (V.bool false))
 (sel (riC u)
 (sel (ieq (riW u) 0)
 (sel (band (ile (slen (riS u)) 1000) (band (band (band (ile (-9223372036854775808) (ri0 u)) (ile (ri0 u) 9223372036854775807)) (band (ile (-9223372036854775808) (ri1 u)) (ile (ri1 u) 9223372036854775807))) (band (band (ile (-9223372036854775808) (ri2 u)) (ile (ri2 u) 9223372036854775807)) (band (ile (-9223372036854775808) (ri3 u)) (ile (ri3 u) 9223372036854775807)))))
 (sel (riC (inT (ri0 u) (ri1 u) (ri2 u) (ri3 u) (riS u)))
 (sel (bnot (ieq (ftW (riS u)) 0))
 (K (V.bool false))
 (sel (bnot (ieq (riW (inT (ri0 u) (ri1 u) (ri2 u) (ri3 u) (riS u))) 0))
 (K (V.bool false))
 (sel (bnot (band (band (ieq (ri0 (inT (ri0 u) (ri1 u) (ri2 u) (ri3 u) (riS u))) (ri0 u)) (ieq (ri1 (inT (ri0 u) (ri1 u) (ri2 u) (ri3 u) (riS u))) (ri1 u))) (band (ieq (ri2 (inT (ri0 u) (ri1 u) (ri2 u) (ri3 u) (riS u))) (ri2 u)) (band (ieq (ri3 (inT (ri0 u) (ri1 u) (ri2 u) (ri3 u) (riS u))) (ri3 u)) (seq (riS (inT (ri0 u) (ri1 u) (ri2 u) (ri3 u) (riS u))) (riS u))))))
 (K (V.bool false))
 (sel (band (band (ile (slen s) 1000) (band (band (band (ile (-9223372036854775808) a) (ile a 9223372036854775807)) (band (ile (-9223372036854775808) b) (ile b 9223372036854775807))) (band (band (ile (-9223372036854775808) c) (ile c 9223372036854775807)) (band (ile (-9223372036854775808) d) (ile d 9223372036854775807))))) (band (ile (slen t) 1000) (band (band (band (ile (-9223372036854775808) e) (ile e 9223372036854775807)) (band (ile (-9223372036854775808) f) (ile f 9223372036854775807))) (band (band (ile (-9223372036854775808) g) (ile g 9223372036854775807)) (band (ile (-9223372036854775808) h) (ile h 9223372036854775807))))))
 (sel (ieq k 1)
 (sel (ieq (loW k a b c d s e f g h t) (ftW s))
 (sel (bnot (ieq (loW k a b c d s e f g h t) 0))
 (sel (seq (loT k a b c d s e f g h t) [])
 (K (V.bool true))
 (sel (okCat [111, 110, 101, 32] (inT a b c d s))
 (K (V.bool (seq (loT k a b c d s e f g h t) (scat [111, 110, 101, 32] (inT a b c d s)))))
 (none)))
 (sel (okCat [111, 110, 101, 32] (inT a b c d s))
 (K (V.bool (seq (loT k a b c d s e f g h t) (scat [111, 110, 101, 32] (inT a b c d s)))))
 (none)))
 (K (V.bool false)))
 (sel (ieq k 2)
 (sel (ieq (ftW s) 0)
 (sel (ieq (ftW t) 0)
 (sel (okCat [110, 111, 110, 101, 32] (inT a b c d s))
 (sel (okCat (scat [110, 111, 110, 101, 32] (inT a b c d s)) [32, 47, 32])
 (sel (okCat (scat (scat [110, 111, 110, 101, 32] (inT a b c d s)) [32, 47, 32]) (inT e f g h t))
 (sel (seq (loT k a b c d s e f g h t) (scat (scat (scat [110, 111, 110, 101, 32] (inT a b c d s)) [32, 47, 32]) (inT e f g h t)))
 (K (V.bool (ieq (loW k a b c d s e f g h t) 0)))
 (K (V.bool false)))
 (none))
 (none))
 (none))
 (sel (ieq k 3)
 (sel (ieq (ftW s) 0)
 (sel (ieq (ftW t) 0)
 (sel (okCat [116, 119, 111, 32] (inT a b c d s))
 (sel (okCat (scat [116, 119, 111, 32] (inT a b c d s)) [32, 47, 32])
 (sel (okCat (scat (scat [116, 119, 111, 32] (inT a b c d s)) [32, 47, 32]) (inT e f g h t))
 (sel (seq (loT k a b c d s e f g h t) (scat (scat (scat [116, 119, 111, 32] (inT a b c d s)) [32, 47, 32]) (inT e f g h t)))
 (K (V.bool (ieq (loW k a b c d s e f g h t) 0)))
 (K (V.bool false)))
 (none))
 (none))
 (none))
 (sel (seq (loT k a b c d s e f g h t) [])
 (K (V.bool (bnot (ieq (loW k a b c d s e f g h t) 0))))
 (K (V.bool false))))
 (sel (seq (loT k a b c d s e f g h t) [])
 (K (V.bool (bnot (ieq (loW k a b c d s e f g h t) 0))))
 (K (V.bool false))))
 (sel (seq (loT k a b c d s e f g h t) [])
 (K (V.bool (bnot (ieq (loW k a b c d s e f g h t) 0))))
 (K (V.bool false)))))
 (sel (ieq k 3)
 (sel (ieq (ftW s) 0)
 (sel (ieq (ftW t) 0)
 (sel (okCat [116, 119, 111, 32] (inT a b c d s))
 (sel (okCat (scat [116, 119, 111, 32] (inT a b c d s)) [32, 47, 32])
 (sel (okCat (scat (scat [116, 119, 111, 32] (inT a b c d s)) [32, 47, 32]) (inT e f g h t))
 (sel (seq (loT k a b c d s e f g h t) (scat (scat (scat [116, 119, 111, 32] (inT a b c d s)) [32, 47, 32]) (inT e f g h t)))
 (K (V.bool (ieq (loW k a b c d s e f g h t) 0)))
 (K (V.bool false)))
 (none))
 (none))
 (none))
 (sel (seq (loT k a b c d s e f g h t) [])
 (K (V.bool (bnot (ieq (loW k a b c d s e f g h t) 0))))
 (K (V.bool false))))
 (sel (seq (loT k a b c d s e f g h t) [])
 (K (V.bool (bnot (ieq (loW k a b c d s e f g h t) 0))))
 (K (V.bool false))))
 (sel (seq (loT k a b c d s e f g h t) [])
 (K (V.bool (bnot (ieq (loW k a b c d s e f g h t) 0))))
 (K (V.bool false)))))
 (sel (ieq k 3)
 (sel (ieq (ftW s) 0)
 (sel (ieq (ftW t) 0)
 (sel (okCat [116, 119, 111, 32] (inT a b c d s))
 (sel (okCat (scat [116, 119, 111, 32] (inT a b c d s)) [32, 47, 32])
 (sel (okCat (scat (scat [116, 119, 111, 32] (inT a b c d s)) [32, 47, 32]) (inT e f g h t))
 (sel (seq (loT k a b c d s e f g h t) (scat (scat (scat [116, 119, 111, 32] (inT a b c d s)) [32, 47, 32]) (inT e f g h t)))
 (K (V.bool (ieq (loW k a b c d s e f g h t) 0)))
 (K (V.bool false)))
 (none))
 (none))
 (none))
 (sel (seq (loT k a b c d s e f g h t) [])
 (K (V.bool (bnot (ieq (loW k a b c d s e f g h t) 0))))
 (K (V.bool false))))
 (sel (seq (loT k a b c d s e f g h t) [])
 (K (V.bool (bnot (ieq (loW k a b c d s e f g h t) 0))))
 (K (V.bool false))))
 (sel (seq (loT k a b c d s e f g h t) [])
 (K (V.bool (bnot (ieq (loW k a b c d s e f g h t) 0))))
 (K (V.bool false))))))
 (none)))))
 (none))
 (none))
 (sel (band (band (ile (slen s) 1000) (band (band (band (ile (-9223372036854775808) a) (ile a 9223372036854775807)) (band (ile (-9223372036854775808) b) (ile b 9223372036854775807))) (band (band (ile (-9223372036854775808) c) (ile c 9223372036854775807)) (band (ile (-9223372036854775808) d) (ile d 9223372036854775807))))) (band (ile (slen t) 1000) (band (band (band (ile (-9223372036854775808) e) (ile e 9223372036854775807)) (band (ile (-9223372036854775808) f) (ile f 9223372036854775807))) (band (band (ile (-9223372036854775808) g) (ile g 9223372036854775807)) (band (ile (-9223372036854775808) h) (ile h 9223372036854775807))))))
 (sel (ieq k 1)
 (sel (ieq (loW k a b c d s e f g h t) (ftW s))
 (sel (bnot (ieq (loW k a b c d s e f g h t) 0))
 (sel (seq (loT k a b c d s e f g h t) [])
 (K (V.bool true))
 (sel (okCat [111, 110, 101, 32] (inT a b c d s))
 (K (V.bool (seq (loT k a b c d s e f g h t) (scat [111, 110, 101, 32] (inT a b c d s)))))
 (none)))
 (sel (okCat [111, 110, 101, 32] (inT a b c d s))
 (K (V.bool (seq (loT k a b c d s e f g h t) (scat [111, 110, 101, 32] (inT a b c d s)))))
 (none)))
 (K (V.bool false)))
 (sel (ieq k 2)
 (sel (ieq (ftW s) 0)
 (sel (ieq (ftW t) 0)
 (sel (okCat [110, 111, 110, 101, 32] (inT a b c d s))
 (sel (okCat (scat [110, 111, 110, 101, 32] (inT a b c d s)) [32, 47, 32])
 (sel (okCat (scat (scat [110, 111, 110, 101, 32] (inT a b c d s)) [32, 47, 32]) (inT e f g h t))
 (sel (seq (loT k a b c d s e f g h t) (scat (scat (scat [110, 111, 110, 101, 32] (inT a b c d s)) [32, 47, 32]) (inT e f g h t)))
 (K (V.bool (ieq (loW k a b c d s e f g h t) 0)))
 (K (V.bool false)))
 (none))
 (none))
 (none))
 (sel (ieq k 3)
 (sel (ieq (ftW s) 0)
 (sel (ieq (ftW t) 0)
 (sel (okCat [116, 119, 111, 32] (inT a b c d s))
 (sel (okCat (scat [116, 119, 111, 32] (inT a b c d s)) [32, 47, 32])
 (sel (okCat (scat (scat [116, 119, 111, 32] (inT a b c d s)) [32, 47, 32]) (inT e f g h t))
 (sel (seq (loT k a b c d s e f g h t) (scat (scat (scat [116, 119, 111, 32] (inT a b c d s)) [32, 47, 32]) (inT e f g h t)))
 (K (V.bool (ieq (loW k a b c d s e f g h t) 0)))
 (K (V.bool false)))
 (none))
 (none))
 (none))
 (sel (seq (loT k a b c d s e f g h t) [])
 (K (V.bool (bnot (ieq (loW k a b c d s e f g h t) 0))))
 (K (V.bool false))))
 (sel (seq (loT k a b c d s e f g h t) [])
 (K (V.bool (bnot (ieq (loW k a b c d s e f g h t) 0))))
 (K (V.bool false))))
 (sel (seq (loT k a b c d s e f g h t) [])
 (K (V.bool (bnot (ieq (loW k a b c d s e f g h t) 0))))
 (K (V.bool false)))))
 (sel (ieq k 3)
 (sel (ieq (ftW s) 0)
 (sel (ieq (ftW t) 0)
 (sel (okCat [116, 119, 111, 32] (inT a b c d s))
 (sel (okCat (scat [116, 119, 111, 32] (inT a b c d s)) [32, 47, 32])
 (sel (okCat (scat (scat [116, 119, 111, 32] (inT a b c d s)) [32, 47, 32]) (inT e f g h t))
 (sel (seq (loT k a b c d s e f g h t) (scat (scat (scat [116, 119, 111, 32] (inT a b c d s)) [32, 47, 32]) (inT e f g h t)))
 (K (V.bool (ieq (loW k a b c d s e f g h t) 0)))
 (K (V.bool false)))
 (none))
 (none))
 (none))
 (sel (seq (loT k a b c d s e f g h t) [])
 (K (V.bool (bnot (ieq (loW k a b c d s e f g h t) 0))))
 (K (V.bool false))))
 (sel (seq (loT k a b c d s e f g h t) [])
 (K (V.bool (bnot (ieq (loW k a b c d s e f g h t) 0))))
 (K (V.bool false))))
 (sel (seq (loT k a b c d s e f g h t) [])
 (K (V.bool (bnot (ieq (loW k a b c d s e f g h t) 0))))
 (K (V.bool false)))))
 (sel (ieq k 3)
 (sel (ieq (ftW s) 0)
 (sel (ieq (ftW t) 0)
 (sel (okCat [116, 119, 111, 32] (inT a b c d s))
 (sel (okCat (scat [116, 119, 111, 32] (inT a b c d s)) [32, 47, 32])
 (sel (okCat (scat (scat [116, 119, 111, 32] (inT a b c d s)) [32, 47, 32]) (inT e f g h t))
 (sel (seq (loT k a b c d s e f g h t) (scat (scat (scat [116, 119, 111, 32] (inT a b c d s)) [32, 47, 32]) (inT e f g h t)))
 (K (V.bool (ieq (loW k a b c d s e f g h t) 0)))
 (K (V.bool false)))
 (none))
 (none))
 (none))
 (sel (seq (loT k a b c d s e f g h t) [])
 (K (V.bool (bnot (ieq (loW k a b c d s e f g h t) 0))))
 (K (V.bool false))))
 (sel (seq (loT k a b c d s e f g h t) [])
 (K (V.bool (bnot (ieq (loW k a b c d s e f g h t) 0))))
 (K (V.bool false))))
 (sel (seq (loT k a b c d s e f g h t) [])
 (K (V.bool (bnot (ieq (loW k a b c d s e f g h t) 0))))
 (K (V.bool false))))))
 (none)))
 (none))))
 (none))
 (sel (riC u)
 (sel (ieq (riW u) 0)
 (sel (band (ile (slen (riS u)) 1000) (band (band (band (ile (-9223372036854775808) (ri0 u)) (ile (ri0 u) 9223372036854775807)) (band (ile (-9223372036854775808) (ri1 u)) (ile (ri1 u) 9223372036854775807))) (band (band (ile (-9223372036854775808) (ri2 u)) (ile (ri2 u) 9223372036854775807)) (band (ile (-9223372036854775808) (ri3 u)) (ile (ri3 u) 9223372036854775807)))))
 (sel (riC (inT (ri0 u) (ri1 u) (ri2 u) (ri3 u) (riS u)))
 (sel (bnot (ieq (ftW (riS u)) 0))
 (K (V.bool false))
 (sel (bnot (ieq (riW (inT (ri0 u) (ri1 u) (ri2 u) (ri3 u) (riS u))) 0))
 (K (V.bool false))
 (sel (bnot (band (band (ieq (ri0 (inT (ri0 u) (ri1 u) (ri2 u) (ri3 u) (riS u))) (ri0 u)) (ieq (ri1 (inT (ri0 u) (ri1 u) (ri2 u) (ri3 u) (riS u))) (ri1 u))) (band (ieq (ri2 (inT (ri0 u) (ri1 u) (ri2 u) (ri3 u) (riS u))) (ri2 u)) (band (ieq (ri3 (inT (ri0 u) (ri1 u) (ri2 u) (ri3 u) (riS u))) (ri3 u)) (seq (riS (inT (ri0 u) (ri1 u) (ri2 u) (ri3 u) (riS u))) (riS u))))))
 (K (V.bool false))
 (sel (band (band (ile (slen s) 1000) (band (band (band (ile (-9223372036854775808) a) (ile a 9223372036854775807)) (band (ile (-9223372036854775808) b) (ile b 9223372036854775807))) (band (band (ile (-9223372036854775808) c) (ile c 9223372036854775807)) (band (ile (-9223372036854775808) d) (ile d 9223372036854775807))))) (band (ile (slen t) 1000) (band (band (band (ile (-9223372036854775808) e) (ile e 9223372036854775807)) (band (ile (-9223372036854775808) f) (ile f 9223372036854775807))) (band (band (ile (-9223372036854775808) g) (ile g 9223372036854775807)) (band (ile (-9223372036854775808) h) (ile h 9223372036854775807))))))
 (sel (ieq k 1)
 (sel (ieq (loW k a b c d s e f g h t) (ftW s))
 (sel (bnot (ieq (loW k a b c d s e f g h t) 0))
 (sel (seq (loT k a b c d s e f g h t) [])
 (K (V.bool true))
 (sel (okCat [111, 110, 101, 32] (inT a b c d s))
 (K (V.bool (seq (loT k a b c d s e f g h t) (scat [111, 110, 101, 32] (inT a b c d s)))))
 (none)))
 (sel (okCat [111, 110, 101, 32] (inT a b c d s))
 (K (V.bool (seq (loT k a b c d s e f g h t) (scat [111, 110, 101, 32] (inT a b c d s)))))
 (none)))
 (K (V.bool false)))
 (sel (ieq k 2)
 (sel (ieq (ftW s) 0)
 (sel (ieq (ftW t) 0)
 (sel (okCat [110, 111, 110, 101, 32] (inT a b c d s))
 (sel (okCat (scat [110, 111, 110, 101, 32] (inT a b c d s)) [32, 47, 32])
 (sel (okCat (scat (scat [110, 111, 110, 101, 32] (inT a b c d s)) [32, 47, 32]) (inT e f g h t))
 (sel (seq (loT k a b c d s e f g h t) (scat (scat (scat [110, 111, 110, 101, 32] (inT a b c d s)) [32, 47, 32]) (inT e f g h t)))
 (K (V.bool (ieq (loW k a b c d s e f g h t) 0)))
 (K (V.bool false)))
 (none))
 (none))
 (none))
 (sel (ieq k 3)
 (sel (ieq (ftW s) 0)
 (sel (ieq (ftW t) 0)
 (sel (okCat [116, 119, 111, 32] (inT a b c d s))
 (sel (okCat (scat [116, 119, 111, 32] (inT a b c d s)) [32, 47, 32])
 (sel (okCat (scat (scat [116, 119, 111, 32] (inT a b c d s)) [32, 47, 32]) (inT e f g h t))
 (sel (seq (loT k a b c d s e f g h t) (scat (scat (scat [116, 119, 111, 32] (inT a b c d s)) [32, 47, 32]) (inT e f g h t)))
 (K (V.bool (ieq (loW k a b c d s e f g h t) 0)))
 (K (V.bool false)))
 (none))
 (none))
 (none))
 (sel (seq (loT k a b c d s e f g h t) [])
 (K (V.bool (bnot (ieq (loW k a b c d s e f g h t) 0))))
 (K (V.bool false))))
 (sel (seq (loT k a b c d s e f g h t) [])
 (K (V.bool (bnot (ieq (loW k a b c d s e f g h t) 0))))
 (K (V.bool false))))
 (sel (seq (loT k a b c d s e f g h t) [])
 (K (V.bool (bnot (ieq (loW k a b c d s e f g h t) 0))))
 (K (V.bool false)))))
 (sel (ieq k 3)
 (sel (ieq (ftW s) 0)
 (sel (ieq (ftW t) 0)
 (sel (okCat [116, 119, 111, 32] (inT a b c d s))
 (sel (okCat (scat [116, 119, 111, 32] (inT a b c d s)) [32, 47, 32])
 (sel (okCat (scat (scat [116, 119, 111, 32] (inT a b c d s)) [32, 47, 32]) (inT e f g h t))
 (sel (seq (loT k a b c d s e f g h t) (scat (scat (scat [116, 119, 111, 32] (inT a b c d s)) [32, 47, 32]) (inT e f g h t)))
 (K (V.bool (ieq (loW k a b c d s e f g h t) 0)))
 (K (V.bool false)))
 (none))
 (none))
 (none))
 (sel (seq (loT k a b c d s e f g h t) [])
 (K (V.bool (bnot (ieq (loW k a b c d s e f g h t) 0))))
 (K (V.bool false))))
 (sel (seq (loT k a b c d s e f g h t) [])
 (K (V.bool (bnot (ieq (loW k a b c d s e f g h t) 0))))
 (K (V.bool false))))
 (sel (seq (loT k a b c d s e f g h t) [])
 (K (V.bool (bnot (ieq (loW k a b c d s e f g h t) 0))))
 (K (V.bool false)))))
 (sel (ieq k 3)
 (sel (ieq (ftW s) 0)
 (sel (ieq (ftW t) 0)
 (sel (okCat [116, 119, 111, 32] (inT a b c d s))
 (sel (okCat (scat [116, 119, 111, 32] (inT a b c d s)) [32, 47, 32])
 (sel (okCat (scat (scat [116, 119, 111, 32] (inT a b c d s)) [32, 47, 32]) (inT e f g h t))
 (sel (seq (loT k a b c d s e f g h t) (scat (scat (scat [116, 119, 111, 32] (inT a b c d s)) [32, 47, 32]) (inT e f g h t)))
 (K (V.bool (ieq (loW k a b c d s e f g h t) 0)))
 (K (V.bool false)))
 (none))
 (none))
 (none))
 (sel (seq (loT k a b c d s e f g h t) [])
 (K (V.bool (bnot (ieq (loW k a b c d s e f g h t) 0))))
 (K (V.bool false))))
 (sel (seq (loT k a b c d s e f g h t) [])
 (K (V.bool (bnot (ieq (loW k a b c d s e f g h t) 0))))
 (K (V.bool false))))
 (sel (seq (loT k a b c d s e f g h t) [])
 (K (V.bool (bnot (ieq (loW k a b c d s e f g h t) 0))))
 (K (V.bool false))))))
 (none)))))
 (none))
 (none))
 (sel (band (band (ile (slen s) 1000) (band (band (band (ile (-9223372036854775808) a) (ile a 9223372036854775807)) (band (ile (-9223372036854775808) b) (ile b 9223372036854775807))) (band (band (ile (-9223372036854775808) c) (ile c 9223372036854775807)) (band (ile (-9223372036854775808) d) (ile d 9223372036854775807))))) (band (ile (slen t) 1000) (band (band (band (ile (-9223372036854775808) e) (ile e 9223372036854775807)) (band (ile (-9223372036854775808) f) (ile f 9223372036854775807))) (band (band (ile (-9223372036854775808) g) (ile g 9223372036854775807)) (band (ile (-9223372036854775808) h) (ile h 9223372036854775807))))))
 (sel (ieq k 1)
 (sel (ieq (loW k a b c d s e f g h t) (ftW s))
 (sel (bnot (ieq (loW k a b c d s e f g h t) 0))
 (sel (seq (loT k a b c d s e f g h t) [])
 (K (V.bool true))
 (sel (okCat [111, 110, 101, 32] (inT a b c d s))
 (K (V.bool (seq (loT k a b c d s e f g h t) (scat [111, 110, 101, 32] (inT a b c d s)))))
 (none)))
 (sel (okCat [111, 110, 101, 32] (inT a b c d s))
 (K (V.bool (seq (loT k a b c d s e f g h t) (scat [111, 110, 101, 32] (inT a b c d s)))))
 (none)))
 (K (V.bool false)))
 (sel (ieq k 2)
 (sel (ieq (ftW s) 0)
 (sel (ieq (ftW t) 0)
 (sel (okCat [110, 111, 110, 101, 32] (inT a b c d s))
 (sel (okCat (scat [110, 111, 110, 101, 32] (inT a b c d s)) [32, 47, 32])
 (sel (okCat (scat (scat [110, 111, 110, 101, 32] (inT a b c d s)) [32, 47, 32]) (inT e f g h t))
 (sel (seq (loT k a b c d s e f g h t) (scat (scat (scat [110, 111, 110, 101, 32] (inT a b c d s)) [32, 47, 32]) (inT e f g h t)))
 (K (V.bool (ieq (loW k a b c d s e f g h t) 0)))
 (K (V.bool false)))
 (none))
 (none))
 (none))
 (sel (ieq k 3)
 (sel (ieq (ftW s) 0)
 (sel (ieq (ftW t) 0)
 (sel (okCat [116, 119, 111, 32] (inT a b c d s))
 (sel (okCat (scat [116, 119, 111, 32] (inT a b c d s)) [32, 47, 32])
 (sel (okCat (scat (scat [116, 119, 111, 32] (inT a b c d s)) [32, 47, 32]) (inT e f g h t))
 (sel (seq (loT k a b c d s e f g h t) (scat (scat (scat [116, 119, 111, 32] (inT a b c d s)) [32, 47, 32]) (inT e f g h t)))
 (K (V.bool (ieq (loW k a b c d s e f g h t) 0)))
 (K (V.bool false)))
 (none))
 (none))
 (none))
 (sel (seq (loT k a b c d s e f g h t) [])
 (K (V.bool (bnot (ieq (loW k a b c d s e f g h t) 0))))
 (K (V.bool false))))
 (sel (seq (loT k a b c d s e f g h t) [])
 (K (V.bool (bnot (ieq (loW k a b c d s e f g h t) 0))))
 (K (V.bool false))))
 (sel (seq (loT k a b c d s e f g h t) [])
 (K (V.bool (bnot (ieq (loW k a b c d s e f g h t) 0))))
 (K (V.bool false)))))
 (sel (ieq k 3)
 (sel (ieq (ftW s) 0)
 (sel (ieq (ftW t) 0)
 (sel (okCat [116, 119, 111, 32] (inT a b c d s))
 (sel (okCat (scat [116, 119, 111, 32] (inT a b c d s)) [32, 47, 32])
 (sel (okCat (scat (scat [116, 119, 111, 32] (inT a b c d s)) [32, 47, 32]) (inT e f g h t))
 (sel (seq (loT k a b c d s e f g h t) (scat (scat (scat [116, 119, 111, 32] (inT a b c d s)) [32, 47, 32]) (inT e f g h t)))
 (K (V.bool (ieq (loW k a b c d s e f g h t) 0)))
 (K (V.bool false)))
 (none))
 (none))
 (none))
 (sel (seq (loT k a b c d s e f g h t) [])
 (K (V.bool (bnot (ieq (loW k a b c d s e f g h t) 0))))
 (K (V.bool false))))
 (sel (seq (loT k a b c d s e f g h t) [])
 (K (V.bool (bnot (ieq (loW k a b c d s e f g h t) 0))))
 (K (V.bool false))))
 (sel (seq (loT k a b c d s e f g h t) [])
 (K (V.bool (bnot (ieq (loW k a b c d s e f g h t) 0))))
 (K (V.bool false)))))
 (sel (ieq k 3)
 (sel (ieq (ftW s) 0)
 (sel (ieq (ftW t) 0)
 (sel (okCat [116, 119, 111, 32] (inT a b c d s))
 (sel (okCat (scat [116, 119, 111, 32] (inT a b c d s)) [32, 47, 32])
 (sel (okCat (scat (scat [116, 119, 111, 32] (inT a b c d s)) [32, 47, 32]) (inT e f g h t))
 (sel (seq (loT k a b c d s e f g h t) (scat (scat (scat [116, 119, 111, 32] (inT a b c d s)) [32, 47, 32]) (inT e f g h t)))
 (K (V.bool (ieq (loW k a b c d s e f g h t) 0)))
 (K (V.bool false)))
 (none))
 (none))
 (none))
 (sel (seq (loT k a b c d s e f g h t) [])
 (K (V.bool (bnot (ieq (loW k a b c d s e f g h t) 0))))
 (K (V.bool false))))
 (sel (seq (loT k a b c d s e f g h t) [])
 (K (V.bool (bnot (ieq (loW k a b c d s e f g h t) 0))))
 (K (V.bool false))))
 (sel (seq (loT k a b c d s e f g h t) [])
 (K (V.bool (bnot (ieq (loW k a b c d s e f g h t) 0))))
 (K (V.bool false))))))
 (none)))
 (none)))
 (none))
 (none)) := by kernel_rfl
end Nt.Ev.YtdhegeecbbponaaDoor.An

set_option linter.unusedVariables false
set_option linter.unusedSimpArgs false
set_option linter.unusedSectionVars false
namespace Nt.Ev.YtdhegeecbbponaaDoor.An
set_option maxRecDepth 100000
open Go Go.RowKit Nt Nt.Num Nt.Fld Nt.Civil Nt.Ev.YtdhegeecbbponaaDoor Go.Proofs.YtdhegeecbbponaaDoor
theorem rep_st {G : Known} {x : V} {u : Value} (hx : isSt x = true) (h : rep G x u) : rep G (.sl 9 [.str] none (stsOf x)) u := by
  cases x with
  | nilsl =>
    unfold rep at h ⊢
    exact ⟨none, 0, h, Nat.le_refl _, .inl rfl⟩
  | sl e sh o xs =>
    have hx : (e == 9 && Kd.eqL [.str] sh) = true := hx
    rw [Bool.and_eq_true] at hx
    have hsh : sh = [.str] := by
      match sh, hx.2 with
      | [.str], _ => rfl
    subst hsh
    show rep G (.sl 9 [.str] none xs) u
    unfold rep at h ⊢
    exact h
  | _ => exact nomatch hx
theorem cs1 {E : Env} {f : Nat} {x r : V} (hx : isSt x = true) (h : Contract E f [.sl 9 [.str] none (stsOf x)] r) : Contract E f [x] r := by
  intro G w vs hG hg hp
  obtain ⟨a, rfl, ha⟩ := PW_one hp
  exact h G w _ hG hg (.cons (rep_st hx ha) .nil)
theorem lo_c {k a b c d : Int} {s : List UInt8} {e f g h : Int} {t : List UInt8} (hc : band (band (ile (slen s) 1000) (band (band (fb a) (fb b)) (band (fb c) (fb d)))) (band (ile (slen t) 1000) (band (band (fb e) (fb f)) (band (fb g) (fb h)))) = true) :
    Contract uE 8 [.agg [.int .i64 k, .int .i64 a, .int .i64 b, .int .i64 c, .int .i64 d, .str s, .int .i64 e, .int .i64 f, .int .i64 g, .int .i64 h, .str t]] (.tup [.str (loT k a b c d s e f g h t), .int .i64 (loW k a b c d s e f g h t)]) ∧
    Contract uE 9 [.agg [.int .i64 k, .int .i64 a, .int .i64 b, .int .i64 c, .int .i64 d, .str s, .int .i64 e, .int .i64 f, .int .i64 g, .int .i64 h, .str t]] (.tup [.str (loT k a b c d s e f g h t), .int .i64 (loW k a b c d s e f g h t)]) := by
  obtain ⟨h1, h2⟩ := band_true hc
  obtain ⟨q1, q2, q3, q4, q5⟩ := fb4 h1
  obtain ⟨p1, p2, p3, p4, p5⟩ := fb4 h2
  exact loc_both k a b c d s e f g h t q1 p1 q2 q3 q4 q5 p2 p3 p4 p5
theorem aLoS_ok (k a b c d : Int) (s : List UInt8) (e f g h : Int) (t : List UInt8) (hc : band (band (ile (slen s) 1000) (band (band (fb a) (fb b)) (band (fb c) (fb d)))) (band (ile (slen t) 1000) (band (band (fb e) (fb f)) (band (fb g) (fb h)))) = true) : Contract uE 8 [.agg [.int .i64 k, .int .i64 a, .int .i64 b, .int .i64 c, .int .i64 d, .str s, .int .i64 e, .int .i64 f, .int .i64 g, .int .i64 h, .str t]] (.tup [.str (loT k a b c d s e f g h t), .int .i64 (loW k a b c d s e f g h t)]) := (lo_c hc).1
theorem aLoS_ok_noontideref45_Local (k a b c d : Int) (s : List UInt8) (e f g h : Int) (t : List UInt8) (hc : band (band (ile (slen s) 1000) (band (band (fb a) (fb b)) (band (fb c) (fb d)))) (band (ile (slen t) 1000) (band (band (fb e) (fb f)) (band (fb g) (fb h)))) = true) : Contract uE 9 [.agg [.int .i64 k, .int .i64 a, .int .i64 b, .int .i64 c, .int .i64 d, .str s, .int .i64 e, .int .i64 f, .int .i64 g, .int .i64 h, .str t]] (.tup [.str (loT k a b c d s e f g h t), .int .i64 (loW k a b c d s e f g h t)]) := (lo_c hc).2
theorem riC_iff {s : List UInt8} : riC s = true ↔ s.length ≤ 4000 ∧ ∀ x ∈ (Nt.Fld.ofP s).1.take 4, x.length ≤ 1000 := by unfold riC; rw [decide_eq_true_eq]
theorem aRiS_ok (s : List UInt8) (hc : riC s = true) : Contract uE 10 [.str s] (.tup [.agg [.int .i64 (ri0 s), .int .i64 (ri1 s), .int .i64 (ri2 s), .int .i64 (ri3 s), .str (riS s)], .int .i64 (riW s)]) := (read_both s (riC_iff.1 hc).1 (riC_iff.1 hc).2).1
theorem aRiS_ok_noontideref45_ReadInfo (s : List UInt8) (hc : riC s = true) : Contract uE 11 [.str s] (.tup [.agg [.int .i64 (ri0 s), .int .i64 (ri1 s), .int .i64 (ri2 s), .int .i64 (ri3 s), .str (riS s)], .int .i64 (riW s)]) := (read_both s (riC_iff.1 hc).1 (riC_iff.1 hc).2).2
theorem aSeS_ok (t : Int) (hc : fb t = true) : Contract uE 14 [.int .i64 t] (.str (seT t)) := aSec_ev t hc
theorem aSeS_ok_noontideref45_Second (t : Int) (hc : fb t = true) : Contract uE 15 [.int .i64 t] (.str (seT t)) := rSec_ev t hc
theorem aFaS_ok (l e : Int) (hc : band (fb l) (fb e) = true) : Contract uE 16 [.agg [.int .i64 l, .int .i64 e]] (.str (faT l e)) := (fau_both l e (band_true hc).1 (band_true hc).2).1
theorem aFaS_ok_noontideref45_Fault (l e : Int) (hc : band (fb l) (fb e) = true) : Contract uE 17 [.agg [.int .i64 l, .int .i64 e]] (.str (faT l e)) := (fau_both l e (band_true hc).1 (band_true hc).2).2
theorem aNaS_ok (x : V) (hc : band (isSt x) (naC (stsOf x)) = true) : Contract uE 12 [x] (.tup [.str (naT (stsOf x)), .int .i64 (naW (stsOf x))]) := cs1 (band_true hc).1 (names_both _ (band_true hc).2).1
theorem aNaS_ok_noontideref45_Names (x : V) (hc : band (isSt x) (naC (stsOf x)) = true) : Contract uE 13 [x] (.tup [.str (naT (stsOf x)), .int .i64 (naW (stsOf x))]) := cs1 (band_true hc).1 (names_both _ (band_true hc).2).2
theorem aLd_ok : SOk uE aLd := by
  unfold aLd
  refine SOk.cons (fun args r h => ?_) (SOk.cons (fun args r h => ?_) (SOk.cons (fun args r h => ?_) (SOk.cons (fun args r h => ?_) (SOk.cons (fun args r h => ?_) (SOk.cons (fun args r h => ?_) (SOk.cons (fun args r h => ?_) (SOk.cons (fun args r h => ?_) (SOk.cons (fun args r h => ?_) (SOk.cons (fun args r h => ?_) (aS1_ok))))))))))
  · unfold aLoS at h
    split at h
    · simp only [Option.some.injEq, Prod.mk.injEq] at h
      obtain ⟨hc, rfl⟩ := h
      exact aLoS_ok _ _ _ _ _ _ _ _ _ _ _ hc
    · cases h
  · unfold aLoS at h
    split at h
    · simp only [Option.some.injEq, Prod.mk.injEq] at h
      obtain ⟨hc, rfl⟩ := h
      exact aLoS_ok_noontideref45_Local _ _ _ _ _ _ _ _ _ _ _ hc
    · cases h
  · unfold aRiS at h
    split at h
    · simp only [Option.some.injEq, Prod.mk.injEq] at h
      obtain ⟨hc, rfl⟩ := h
      exact aRiS_ok _ hc
    · cases h
  · unfold aRiS at h
    split at h
    · simp only [Option.some.injEq, Prod.mk.injEq] at h
      obtain ⟨hc, rfl⟩ := h
      exact aRiS_ok_noontideref45_ReadInfo _ hc
    · cases h
  · unfold aSeS at h
    split at h
    · simp only [Option.some.injEq, Prod.mk.injEq] at h
      obtain ⟨hc, rfl⟩ := h
      exact aSeS_ok _ hc
    · cases h
  · unfold aSeS at h
    split at h
    · simp only [Option.some.injEq, Prod.mk.injEq] at h
      obtain ⟨hc, rfl⟩ := h
      exact aSeS_ok_noontideref45_Second _ hc
    · cases h
  · unfold aFaS at h
    split at h
    · simp only [Option.some.injEq, Prod.mk.injEq] at h
      obtain ⟨hc, rfl⟩ := h
      exact aFaS_ok _ _ hc
    · cases h
  · unfold aFaS at h
    split at h
    · simp only [Option.some.injEq, Prod.mk.injEq] at h
      obtain ⟨hc, rfl⟩ := h
      exact aFaS_ok_noontideref45_Fault _ _ hc
    · cases h
  · unfold aNaS at h
    split at h
    · simp only [Option.some.injEq, Prod.mk.injEq] at h
      obtain ⟨hc, rfl⟩ := h
      exact aNaS_ok _ hc
    · cases h
  · unfold aNaS at h
    split at h
    · simp only [Option.some.injEq, Prod.mk.injEq] at h
      obtain ⟨hc, rfl⟩ := h
      exact aNaS_ok_noontideref45_Names _ hc
    · cases h
theorem aLvS_ok (hc : true = true) : Contract uE 5 [] (.bool true) := by
  refine contract_of_body uE_ok aLd_ok 60 4 ?_
  kernel_rfl
theorem aL_ok : SOk uE aL := by
  unfold aL
  refine SOk.cons (fun args r h => ?_) (aLd_ok)
  · unfold aLvS at h
    split at h
    · simp only [Option.some.injEq, Prod.mk.injEq] at h
      obtain ⟨hc, rfl⟩ := h
      exact aLvS_ok  rfl
    · cases h
theorem seq_self (s : List UInt8) : seq s s = true := by rw [seq_iff]
theorem ieq_self (a : Int) : ieq a a = true := by rw [ieq_iff]
theorem bt (x : Bool) : band true x = x := rfl
theorem riC_small {u : List UInt8} (h : u.length ≤ 1000) : riC u = true := riC_iff.2 ⟨by omega, fun x hx => Nat.le_trans (of_mem (List.mem_of_mem_take hx)) h⟩
theorem fb_w {n : Int} (h : Fits n) : fb n = true := by
  unfold fb
  rw [band_iff, ile_iff, ile_iff]
  unfold Fits at h; omega
end Nt.Ev.YtdhegeecbbponaaDoor.An
