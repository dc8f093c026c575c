/-
  Remarks, empty lines and blanks have no part: the plain law of the reader's run.
-/
import Derived.Test.YtknhlobahpgkeaaGreatDoorMXN
set_option linter.all false
set_option maxRecDepth 100000
namespace Nt.Ev.YtknhlobahpgkeaaGreatDoor.Rr
open Go Nt Nt.Num Nt.Civil Nt.Fld Nt.Lin Go.Proofs.YtknhlobahpgkeaaGreatDoor Nt.Ev.YtknhlobahpgkeaaGreatDoor Nt.Ev.YtknhlobahpgkeaaGreatDoor.Lk
variable [kM]
structure Sim (t u:mD):Prop where
 rs:t.rs=u.rs
 zs:t.zs=u.zs
 ks:t.ks=u.ks
 yz:t.yz=u.yz
 op:u.op=2*t.op
theorem Sim.err {t u:mD} (h:Sim t u) (s a:af) (b:vo a=vo s) (e:Ai a=Ai s):u.err a=t.err s:=by
 have c:(0<u.op)=(0<t.op):=by rw[h.op];exact propext (by omega)
 have d:bY a=bY s:=by unfold bY;rw[b]
 have f:MF a=MF s:=by unfold MF;rw[b]
 unfold mD.err kN;rw[d,f,e,h.rs,h.zs,h.ks,h.yz];simp only[c]
theorem Sim.step {t u:mD} (h:Sim t u) (s a:af) (k:Int) (e:vo a=vo s):Sim (t.step k s) (u.step (2*k) a):=by
 have d:(0<u.op)=(0<t.op):=by rw[h.op];exact propext (by omega)
 have b:bY a=bY s:=by unfold bY;rw[e]
 have c:gz u.op a=gz t.op s:=by unfold gz;rw[b];simp only[d]
 refine⟨?_,?_,?_,?_,?_⟩
 ·show qV t.rs t.op s=qV u.rs u.op a
  unfold qV;rw[c,b,h.rs]
 ·show qW t.zs t.yz t.op s=qW u.zs u.yz u.op a
  unfold qW;rw[c,b,h.zs,h.yz]
 ·show qX t.ks t.op s=qX u.ks u.op a
  unfold qX;rw[c,b,h.ks]
 ·show qY t.yz t.op s=qY u.yz u.op a
  unfold qY;rw[c,b,h.yz]
 show oD u.op (2*k) a=2*oD t.op k s;unfold oD jB;rw[c,b,h.op];split
 ·split<;>omega
 split
 ·split<;>omega
 rfl
theorem op_rng {op ln:Int} {s:af} (b:0≤op) (a:op≤ln):0≤oD op ln s∧oD op ln s≤ln:=by
 unfold oD jB;split
 ·split<;>omega
 split
 ·split<;>omega
 omega
theorem Rm: ∀(xs:ah) (k:Int) (t:mD),0≤t.op→t.op≤k→
  0≤(iI xs k t).1.op∧(iI xs k t).1.op≤(iI xs k t).2.1∧k≤(iI xs k t).2.1∧(iI xs k t).2.1≤k+(xs.length:Int)∧((iI xs k t).2.2≠0→k<(iI xs k t).2.1)
 |[],k,t,g,j=>⟨g,j,by show k≤k;omega,by show k≤k+0;omega,fun h=>absurd rfl h⟩
 |x::xs,k,t,g,j=>by
  by_cases e:t.err (Gl x)=0
  ·rw[iF e]
   have i:=op_rng (op:=t.op) (ln:=k+1) (s:=Gl x) g (by omega);obtain⟨a,b,c,d,f⟩:=Rm xs (k+1) (t.step (k+1) (Gl x)) i.1 i.2;refine⟨a,b,by omega,by rw[fI];omega,fun h=>by have:=f h;omega⟩
  rw[kg e];exact⟨g,by show t.op≤k+1;omega,by show k≤k+1;omega,by show k+1≤k+((xs.length+1:Nat):Int);omega,fun _=>by show k<k+1;omega⟩
end Nt.Ev.YtknhlobahpgkeaaGreatDoor.Rr
