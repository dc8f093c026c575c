/-
  ReadLaw: equations of functions, as the evaluator prints them.
-/
import Derived.Test.YtknhlobahpgkeaaGreatDoorMXM
set_option linter.all false
set_option maxRecDepth 100000
namespace Nt.Ev.YtknhlobahpgkeaaGreatDoor.Rr
open Go Nt.Num Go.Proofs.YtknhlobahpgkeaaGreatDoor
variable [kM]
open Nt.Ev.YtknhlobahpgkeaaGreatDoor
open Nt.Civil
open Nt.Fld
open Nt.Ev.YtknhlobahpgkeaaGreatDoor.Lk
noncomputable def lTbS:aC:=fun a=>match a with|[.str s]=>some (true,tbV (qZ s) (qy s) (q8 s) (YW s) (YX s) (YY s) (JN s) (Gm s))|_=>none
open Go.RowKit Nt
theorem IG (a:Int):ieq a a=true:=bn rfl
theorem Np {G:aU} {a c:Nat} {d b:Option Nat} {sh:List Kd} {xs:ah} {v:Value} (h:aV G (.sl a sh d xs) v):aV G (.sl c sh b xs) v:=by unfold aV at h⊢;exact h
theorem lTbS_ok (s:af) (a:true=true):aj eE 6 [.str s] (tbV (qZ s) (qy s) (q8 s) (YW s) (YX s) (YY s) (JN s) (Gm s)):=tbP_ev s
def Few (t:mD):Prop:=(∀z∈t.zs,(Ap (ai z 1)).length≤256)∧ ∀z∈t.we,(Ap (ai z 0)).length≤256
theorem aek {x:V} {e:Nat} {sh:List Kd} {o:Option Nat} {ys:ah} (h:ys.length≤256):(Ap (ai (aset x 1 (.sl e sh o ys)) 1)).length≤256:=by
 show(Ap ((x.cells.set 1 (.sl e sh o ys)).getD 1 .any)).length≤256;rcases acU 1 x.cells.length with a|a
 ·rw[mg,ab9 a]
  exact h
 rw[mg,abF (by simpa using a)];show([]:ah).length≤256;simp
theorem Few.step {t:mD} (g:Good t) (h:Few t) {ln:Int} {s:af} (j:t.err s=0):Few (t.step ln s):=by
 obtain⟨i,_,_⟩:=WC j;rcases i with b|⟨b,d,c⟩|⟨d,b,c⟩|⟨d,b,c⟩|⟨d,b,c⟩
 ·rw[gq b];exact h
 ·rw[gq b]
  have f:=(jO c).2;rw[aD] at f;have k:=g.ye;refine⟨fun z a=>?_,fun z a=>?_⟩
  ·have a:z∈mG t.zs t.yz (bY s):=a
   unfold mG oz at a;rcases List.mem_or_eq_of_mem_set a with e|rfl
   ·exact h.1 z e
   exact aek (by unfold aX;rw[iH,vg];omega)
  have a:z∈rM t.we t.ye ln:=a;unfold rM oz at a;rcases List.mem_or_eq_of_mem_set a with e|rfl
  ·exact h.2 z e
  show(aX t.ye [.int .i64 ln]).length≤256;unfold aX;rw[iH,vg];omega
 ·rw[gq b];exact h
 ·rw[gq b]
  refine⟨fun z a=>?_,fun z a=>?_⟩
  ·have a:z∈tN t.zs (tl1 (bY s)):=a
   unfold tN aX at a;rw[aby,S7] at a;rcases a with a|rfl
   ·exact h.1 z a
   show([qh (tl1 (tl1 (bY s)))]:ah).length≤256;simp
  have a:z∈AF t.we ln:=a;unfold AF aX at a;rw[aby,S7] at a;rcases a with a|rfl
  ·exact h.2 z a
  show([V.int .i64 ln]:ah).length≤256;simp
 rw[gq b];exact h
theorem Rk: ∀(xs:ah) (ln:Int) (t:mD),Good t→Few t→Few (iI xs ln t).1
 |[],ln,t,_,h=>h
 |x::xs,ln,t,a,h=>by
  unfold iI;split
  ·exact Rk xs (ln+1) _ (a.step ‹_›) (h.step a ‹_›)
  exact h
theorem r0_few:Few r0:=⟨fun z (a:z∈([]:ah))=>(nomatch a),fun z (a:z∈([]:ah))=>(nomatch a)⟩
end Nt.Ev.YtknhlobahpgkeaaGreatDoor.Rr
