/-
  A region that draws its order, proved operation by operation: one fact for each operation's value, which the other operations keep; so the proof is as long as the region, whatever the number of its orders. A region that draws its order, in a round of a range over a function. A range over a function whose iterator keeps its state in a cell that it has captured: the law for the loop. Lines of a source: the plain law. The lines of a source, walked: strings.Lines hands its lines to the loop, one by one. Bld: equations of functions, as the evaluator prints them. A strings.Builder's copyCheck and String, as contracts. Lines: equations of functions, as the evaluator prints them. Lines of a source: both sides as contracts.
-/
import Derived.Test.YtjkfndcpiihniaaGreatDoorMC
import Derived.Orders
import Derived.ArgAppend
import Derived.OrdersIn
import Derived.TacticsIn
import Derived.RangeFuncBox
import Derived.RangeFuncFrom
import Derived.Test.YtjkfndcpiihniaaGreatDoorMBB
import Derived.Lib.Strings
import Derived.Lib.Bytealg
import Derived.Test.YtjkfndcpiihniaaGreatDoorMS
import Derived.RangeFuncNested
import Derived.RangeFuncBound
import Derived.RangeFuncCalls
import Derived.RangeFuncLeaves
import Derived.Shelf.Abstract
import Derived.Shelf.RegionOpen
import Derived.WalkKit
import Derived.OwnWalkIn
import Derived.TacticsInMore
import Derived.LoopNIn
import Derived.LoopIn
import Derived.Maps.AppendAt
import Derived.RegionIn
import Derived.IntWalk
import Derived.Test.YtjkfndcpiihniaaGreatDoorMP
import Derived.Laws.RangeAny
import Derived.Shelf.GgClosure.StringsIndexFunc
set_option linter.unusedVariables false
set_option linter.unusedSimpArgs false
namespace Nt
open Go Go.RowKit
section
variable {P : Program} {ops : Array Oper} {Q : Exit → Act → World → Prop}
def Slot (a : Act) (t : Nat) (v : Value) : Prop := a.tmps[t]? = some v ∧ ∀ h : t < a.tmps.size, a.tmps[t] = v
theorem Slot.mk {a : Act} {t : Nat} {v : Value} (h : a.tmps[t]? = some v) : Slot a t v := ⟨h, fun hl => by rw [Array.getElem?_eq_getElem hl] at h; exact Option.some.inj h⟩
theorem below_alloc (w : World) (o : Obj) : Below w.heap.size w (w.alloc o) := (Below.refl _ _).alloc (Nat.le_refl _) o
end
end Nt

namespace Nt
open Go Go.RowKit
section
variable {P : Program} {ops : Array Oper} {Q : Exit → Act → World → Prop} {l n : Nat}
end
end Nt

namespace Nt
open Go Go.RowKit
variable {F : Fence} {n : Nat} {P : Program}
end Nt

namespace Nt.Lin
open Go Nt.Ev
end Nt.Lin

namespace Go.Proofs.YtjkfndcpiihniaaGreatDoor
open Go Go.RowKit Go.Shelf Nt Nt.Lin
attribute [local go_sem] Oper.semAt_some
end Go.Proofs.YtjkfndcpiihniaaGreatDoor

set_option linter.unusedSectionVars false
namespace Nt.Ev.YtjkfndcpiihniaaGreatDoor
open Go Nt.Num Go.Proofs.YtjkfndcpiihniaaGreatDoor
noncomputable def bcOk : V → Bool | .nilp => true | .box k off => k == HL && off == 0 | _ => false
noncomputable def bbOk : V → Bool | .nilsl => true | .sl e sh (some L) xs => e == 5 && Kd.eqL [.int .u8] sh && L == 1000001002 | _ => false
noncomputable def bbS : V → List UInt8 | .sl _ _ _ xs => vbytes xs | _ => []
noncomputable def bbN : V → V | .sl e sh _ xs => .sl e sh none xs | v => v
end Nt.Ev.YtjkfndcpiihniaaGreatDoor

namespace Nt.Ev.YtjkfndcpiihniaaGreatDoor
set_option maxRecDepth 100000
open Go Go.RowKit Nt Nt.Num Go.Proofs.YtjkfndcpiihniaaGreatDoor
theorem bc_cases {x : V} (h : bcOk x = true) : x = .nilp ∨ x = .box HL 0 := by
  unfold bcOk at h
  split at h
  · exact .inl rfl
  · rename_i k off
    rw [Bool.and_eq_true, beq_iff_eq, beq_iff_eq] at h
    rw [h.1, h.2]; exact .inr rfl
  · cases h
theorem bvb (l : List UInt8) : vbytes (bytesV l) = l := by
  unfold vbytes bytesV
  rw [List.map_map]
  refine (List.map_congr_left fun c _ => ?_).trans (List.map_id l)
  show UInt8.ofNat ((c.toNat : Int)).toNat = c
  rw [Int.toNat_natCast]; exact UInt8.ofNat_toNat
end Nt.Ev.YtjkfndcpiihniaaGreatDoor

namespace Nt.Ev.YtjkfndcpiihniaaGreatDoor
open Go Nt.Num Go.Proofs.YtjkfndcpiihniaaGreatDoor
open Nt.Lin
end Nt.Ev.YtjkfndcpiihniaaGreatDoor

namespace Nt.Ev.YtjkfndcpiihniaaGreatDoor
open Go Go.RowKit Nt Nt.Num Nt.Lin Go.Proofs.YtjkfndcpiihniaaGreatDoor
end Nt.Ev.YtjkfndcpiihniaaGreatDoor
