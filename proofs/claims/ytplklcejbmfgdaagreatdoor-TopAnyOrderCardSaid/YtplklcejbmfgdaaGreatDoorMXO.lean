/-
  Remarks, empty lines and blanks have no part: the plain law of the reader's run. ReadNoth: equations of functions, as the evaluator prints them. ReadNothing: the law, by the evaluator.
-/
import Derived.Test.YtplklcejbmfgdaaGreatDoorMXN
import Derived.Test.YtplklcejbmfgdaaGreatDoorMQ
set_option linter.unusedVariables false
set_option linter.unusedSimpArgs false
set_option linter.unusedSectionVars false
namespace Nt.Ev.YtplklcejbmfgdaaGreatDoor.Rr
set_option maxRecDepth 100000
open Go Nt Nt.Num Nt.Civil Nt.Fld Nt.Lin Go.Proofs.YtplklcejbmfgdaaGreatDoor Nt.Ev.YtplklcejbmfgdaaGreatDoor Nt.Ev.YtplklcejbmfgdaaGreatDoor.Lk
variable [nP]
structure Sim (t u:qg):Prop where
 rs:t.rs=u.rs
 zs:t.zs=u.zs
 ks:t.ks=u.ks
 yz:t.yz=u.yz
 op:u.op=2*t.op
theorem Sim.err {t u:qg} (h:Sim t u) (s s':List UInt8) (h1:EE s'=EE s) (h2:Af s'=Af s):u.err s'=t.err s:=by
 have ho:(0<u.op)=(0<t.op):=by rw[h.op];exact propext (by omega)
 have e1:cK s'=cK s:=by unfold cK;rw[h1]
 have e2:LP s'=LP s:=by unfold LP;rw[h1]
 unfold qg.err kF;rw[e1,e2,h2,h.rs,h.zs,h.ks,h.yz];simp only[ho]
theorem Sim.step {t u:qg} (h:Sim t u) (s s':List UInt8) (k:Int) (h1:EE s'=EE s):Sim (t.step k s) (u.step (2*k) s'):=by
 have ho:(0<u.op)=(0<t.op):=by rw[h.op];exact propext (by omega)
 have e1:cK s'=cK s:=by unfold cK;rw[h1]
 have kd:fQ u.op s'=fQ t.op s:=by unfold fQ;rw[e1];simp only[ho]
 refine⟨?_,?_,?_,?_,?_⟩
 ·show qM t.rs t.op s=qM u.rs u.op s'
  unfold qM;rw[kd,e1,h.rs]
 ·show qN t.zs t.yz t.op s=qN u.zs u.yz u.op s'
  unfold qN;rw[kd,e1,h.zs,h.yz]
 ·show qO t.ks t.op s=qO u.ks u.op s'
  unfold qO;rw[kd,e1,h.ks]
 ·show qP t.yz t.op s=qP u.yz u.op s'
  unfold qP;rw[kd,e1,h.yz]
 ·show qQ u.op (2*k) s'=2*qQ t.op k s
  unfold qQ jw;rw[kd,e1,h.op];split
  ·split<;>omega
  ·split
   ·split<;>omega
   ·rfl
noncomputable def isSt:V→Bool| .nilsl=>true| .sl e k _ _=>e==9&&Kd.qV [Kd.str] k|_=>false
noncomputable def nJoS:aG:=fun a=>match a with|[x]=>some (bif isSt x then U0 (xL x) else false,.str (xh (xL x)))|_=>none
theorem RA {E:Env} {f e:Nat} {sh:List Kd} {r:V} (h:af E f [.sl e sh none []] r):af E f [.nilsl] r:=by
 intro G w vs hG hg hp;obtain⟨x,rfl,hx⟩:=Gs hp;exact h G w _ hG hg (.cons (BB hx) .nil)
theorem RB {E:Env} {f e:Nat} {sh:List Kd} {o:Option Nat} {xs:List V} {r:V} (h:af E f [.sl e sh none xs] r):af E f [.sl e sh o xs] r:=by
 intro G w vs hG hg hp;obtain⟨x,rfl,hx⟩:=Gs hp;exact h G w _ hG hg (.cons (by unfold aO at hx⊢;exact hx) .nil)
theorem nJoS_ok (x:V) (hc:(bif isSt x then U0 (xL x) else false)=true):af eE 12 [x] (.str (xh (xL x))):=by
 obtain⟨h1,h2⟩:=lU hc
 cases x with
 |nilsl=>exact eO (RA (WI [] h2))
 |sl e k o xs=>
  have h1:(e==9&&Kd.qV [Kd.str] k)=true:=h1;rw[Bool.and_eq_true,beq_iff_eq] at h1;obtain⟨rfl,hk⟩:=h1;obtain rfl:=Kd.bK _ _ hk;exact eO (RB (WI xs h2))
 |_=>cases h1
end Nt.Ev.YtplklcejbmfgdaaGreatDoor.Rr
