/-
  Remarks, empty lines and blanks have no part: the plain law of the reader's run.
-/
import Derived.Test.YtjcencojgajgdaaGreatDoorMXN
set_option linter.all false
set_option maxRecDepth 100000
namespace Nt.Ev.YtjcencojgajgdaaGreatDoor.Rr
open Go Nt Nt.Num Nt.Civil Nt.Fld Nt.Lin Go.Proofs.YtjcencojgajgdaaGreatDoor Nt.Ev.YtjcencojgajgdaaGreatDoor Nt.Ev.YtjcencojgajgdaaGreatDoor.Lk
variable [kH]
structure Sim (t u:qh):Prop where
 rs:t.rs=u.rs
 zs:t.zs=u.zs
 ks:t.ks=u.ks
 yz:t.yz=u.yz
 op:u.op=2*t.op
theorem Sim.err {t u:qh} (h:Sim t u) (s a:af) (b:wN a=wN s) (e:Al a=Al s):u.err a=t.err s:=by
 have c:(0<u.op)=(0<t.op):=by rw[h.op];exact propext (by omega)
 have d:dm a=dm s:=by unfold dm;rw[b]
 have f:Ns a=Ns s:=by unfold Ns;rw[b]
 unfold qh.err kJ;rw[d,f,e,h.rs,h.zs,h.ks,h.yz];simp only[c]
theorem Sim.step {t u:qh} (h:Sim t u) (s a:af) (k:Int) (e:wN a=wN s):Sim (t.step k s) (u.step (2*k) a):=by
 have d:(0<u.op)=(0<t.op):=by rw[h.op];exact propext (by omega)
 have b:dm a=dm s:=by unfold dm;rw[e]
 have c:gz u.op a=gz t.op s:=by unfold gz;rw[b];simp only[d]
 refine⟨?_,?_,?_,?_,?_⟩
 ·show qT t.rs t.op s=qT u.rs u.op a
  unfold qT;rw[c,b,h.rs]
 ·show qU t.zs t.yz t.op s=qU u.zs u.yz u.op a
  unfold qU;rw[c,b,h.zs,h.yz]
 ·show qV t.ks t.op s=qV u.ks u.op a
  unfold qV;rw[c,b,h.ks]
 ·show qW t.yz t.op s=qW u.yz u.op a
  unfold qW;rw[c,b,h.yz]
 show qX u.op (2*k) a=2*qX t.op k s;unfold qX jN;rw[c,b,h.op];split
 ·split<;>omega
 split
 ·split<;>omega
 rfl
end Nt.Ev.YtjcencojgajgdaaGreatDoor.Rr
