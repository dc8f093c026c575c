/-
  All operations together.
-/
import Derived.Test.YtnchnnbggfeknaaDoorEvOps7
import Derived.Test.YtnchnnbggfeknaaDoorEvOpsE
set_option linter.unusedVariables false
set_option linter.unusedSimpArgs false
namespace Nt.Ev
open Go Go.RowKit
section
variable {P : Program} {ρ : Operand → Value} {o : Oper} {B : Nat} {w : World} {g : Gh} {bx : List (Nat × List V)} {E : Env} {fr : List V} {ac : Act}

theorem repE_bytes {G : Known} : ∀ (l : List UInt8) (rest : List Value), repE G [.int .u8] (bytesV l) ((l.map fun c => Value.int .u8 (c.toNat : Int)) ++ rest)
  | [], rest => repE_nil
  | c :: l, rest => by
    unfold bytesV
    rw [List.map_cons, List.map_cons, List.cons_append]
    unfold repE
    refine ⟨rfl, ⟨.int .u8 (c.toNat : Int), by unfold rep; rfl, rfl⟩, ?_⟩
    exact repE_bytes l rest

theorem conv_sound {src dst : TypeId} {x : Operand} {X : V} {eff : Eff} (ho : o.op = .convert src dst x) (hG : GOk g.G w) (hx : trep g X (ρ x)) (h : convV P src dst X = some (true, eff)) : Does P ρ o B w g bx eff := by
  have he : execOp ρ o = (do pure (.value (← convert src dst (ρ x)))) := by simp only [execOp, ho]
  unfold convV at h
  split at h
  · rename_i k0 k k' n hs hd
    simp only [ok, Option.some.injEq, Prod.mk.injEq, true_and] at h
    subst h
    rw [trep_int] at hx
    refine does_val he (u := .int k (icnv k n)) ?_ (trep_int.2 rfl)
    rw [hx]
    simp [convert, run_underlying hs, run_underlying hd, Conv.intToInt, icnv]
  · rename_i l hs hd
    simp only [ok, Option.some.injEq, Prod.mk.injEq, true_and] at h
    subst h
    refine does_val he (u := ρ x) ?_ hx
    rw [trep_str] at hx
    rw [hx]
    simp [convert, run_underlying hs, run_underlying hd]
  · rename_i e l hs hd
    split at h
    · rename_i hue
      simp only [Option.some.injEq, Prod.mk.injEq] at h
      obtain ⟨hle, rfl⟩ := h
      have hle : l.length ≤ 1152921504606846976 := of_decide_eq_true hle
      rw [trep_str] at hx
      let cap := grownCap w l.length 0 e
      let cells : Array Value := ((⟨l.toArray⟩ : ByteArray).data.map fun b => Value.int .u8 b.toNat) ++ Array.replicate (cap - l.length) (.int .u8 0)
      have hge : l.length ≤ cap := grownCap_ge w l.length 0 e
      have hcells : cells.toList = (l.map fun c => Value.int .u8 (c.toNat : Int)) ++ List.replicate (cap - l.length) (.int .u8 0) := by
        simp [cells]
      have hnew := size_drew_alloc w (.cells cells e)
      have hrun : (convert src dst (ρ x)).run P w = .ok (.slice (some ⟨w.heap.size, 0, none⟩) l.length cap) ((w.drew.alloc (.cells cells e)).freeze { block := w.heap.size, off := cells.size } 1) := by
        rw [hx]
        have hsz : (⟨l.toArray⟩ : ByteArray).size = l.length := bs_size l
        have hms : (markStringish ⟨w.heap.size, 0, none⟩).run P (w.drew.alloc (.cells cells e)) = .ok () ((w.drew.alloc (.cells cells e)).freeze { block := w.heap.size, off := cells.size } 1) := by
          have hsh : (w.drew.alloc (.cells cells e)).shape? w.heap.size = some (e, cells.size) := by unfold World.shape?; rw [hnew]
          simp only [markStringish, Sem.run_bind, run_shape, hsh, Result.andThen_ok]
          rfl
        have hcs : (Conv.stringToBytes e ⟨l.toArray⟩).run P w = .ok (.slice (some ⟨w.heap.size, 0, none⟩) l.length cap) ((w.drew.alloc (.cells cells e)).freeze { block := w.heap.size, off := cells.size } 1) := by
          unfold Conv.stringToBytes
          rw [Sem.run_bind, run_choose, if_neg (by simp [Question.forced])]
          simp only [Result.andThen_ok, hsz]
          rw [Sem.run_bind]
          have hn : (newRow e (Array.map (fun (b : UInt8) => Value.int .u8 b.toNat) (⟨l.toArray⟩ : ByteArray).data ++ Array.replicate ((Question.appendCap l.length 0 e).cut (w.tape w.drawn (.appendCap l.length 0 e)) - l.length) (.int .u8 0))).run P { w with drawn := w.drawn + 1 } = .ok ⟨w.heap.size, 0, none⟩ (w.drew.alloc (.cells cells e)) := by
            simp only [newRow, Sem.run_bind, run_newObj, Result.andThen_ok, Sem.run_pure]
            rfl
          rw [hn]
          simp only [Result.andThen_ok]
          rw [Sem.run_bind, hms]
          rfl
        simp only [convert, Sem.run_bind, run_underlying hs, run_underlying hd, Result.andThen_ok, run_underlying hue, hcs]
      obtain ⟨f, hf⟩ : ∃ f : Obj → Obj, (w.drew.alloc (.cells cells e)).freeze { block := w.heap.size, off := cells.size } 1 = { w.drew.alloc (.cells cells e) with heap := (w.drew.alloc (.cells cells e)).heap.modify w.heap.size f } ∧ ∃ fr, f (.cells cells e) = .cells cells e fr :=
        ⟨_, by unfold World.freeze; rw [if_neg (by decide)], _, rfl⟩
      obtain ⟨hf, fr, hfr⟩ := hf
      rw [hf] at hrun
      have hB : Below w.heap.size w { w.drew.alloc (.cells cells e) with heap := (w.drew.alloc (.cells cells e)).heap.modify w.heap.size f } := by
        have h1 := below_drew_alloc w (.cells cells e)
        refine ⟨h1.os, h1.tape, h1.output, ?_, ?_⟩
        · show w.heap.size ≤ ((w.drew.alloc (.cells cells e)).heap.modify w.heap.size f).size
          rw [Array.size_modify]; exact h1.size
        · intro k hk
          show ((w.drew.alloc (.cells cells e)).heap.modify w.heap.size f)[k]? = _
          rw [Array.getElem?_modify, if_neg (by omega)]
          exact h1.block k hk
      have hh : ({ w.drew.alloc (.cells cells e) with heap := (w.drew.alloc (.cells cells e)).heap.modify w.heap.size f } : World).heap[w.heap.size]? = some (.cells cells e fr) := by
        show ((w.drew.alloc (.cells cells e)).heap.modify w.heap.size f)[w.heap.size]? = _
        rw [Array.getElem?_modify, if_pos rfl, hnew, Option.map_some, hfr]
      have hcsz : l.length ≤ cells.size := by
        have : cells.toList.length = cells.size := by simp
        rw [← this, hcells]
        simp
      refine ⟨.slice (some ⟨w.heap.size, 0, none⟩) l.length cap, _, upd g.G w.heap.size (cells.toList.take l.length), by rw [he]; simp only [Sem.run_bind, hrun, Result.andThen_ok, Sem.run_pure], new_row hG hB hh l.length hcsz, ?_⟩
      unfold rep
      refine ⟨some ⟨w.heap.size, 0, none⟩, cap, by unfold bytesV; simp, by unfold bytesV; simpa using hge, .inr ⟨w.heap.size, 0, _, rfl, upd_same _ _ _, ?_⟩⟩
      have e1 : cells.toList.take l.length = (l.map fun c => Value.int .u8 (c.toNat : Int)) := by
        rw [hcells, List.take_append_of_le_length (by simp)]
        exact List.take_of_length_le (by simp)
      rw [e1, List.drop_zero]
      have := repE_bytes (G := upd g.G w.heap.size (l.map fun c => Value.int .u8 (c.toNat : Int))) l []
      rwa [List.append_nil] at this
    · cases h
  · rename_i e sh ow xs hs hd
    split at h
    · rename_i hue
      simp only [ok, Option.some.injEq, Prod.mk.injEq, true_and] at h
      subst h
      have hr := trep_slice hx
      unfold rep at hr
      obtain ⟨p, cap, hv, hcap, hr⟩ := hr
      refine does_val he (u := .string ⟨(vbytes xs).toArray⟩) ?_ (trep_str.2 rfl)
      rw [hv]
      have e0 : ∀ y : Value, (convert src dst y).run P w = (Conv.bytesToString y).run P w ∨ True := fun _ => .inr trivial
      by_cases hne : xs = []
      · subst hne
        cases p with
        | none => simp [convert, run_underlying hs, run_underlying hd, run_underlying hue, Conv.bytesToString, vbytes]; rfl
        | some a =>
          have hl : (loadCells a 0).run P w = .ok (([] : List Int).map (Value.int .u8)).toArray w := by simp [loadCells, loadCellsFrom]
          have := run_bytesToString w a 0 cap [] hl
          simp only [List.length_nil]
          simp [convert, run_underlying hs, run_underlying hd, run_underlying hue, this, vbytes]
          rfl
      · rcases hr with hr | ⟨b, off, l, rfl, hG2, hE⟩
        · exact absurd hr hne
        · have hrow := bytes_row xs _ hE
          have hl : (loadCells ⟨b, off, none⟩ xs.length).run P w = .ok ((xs.map fun x => asInt (acell x 0)).map (Value.int .u8)).toArray w := by
            have := run_loadCells_list (P := P) w ⟨b, off, none⟩ ((xs.map fun x => asInt (acell x 0)).map (Value.int .u8)) (fun j v hv => by
              rw [← hrow, List.getElem?_take] at hv
              split at hv
              · rw [List.getElem?_drop] at hv
                rw [Addr.add_mid]
                exact known_cell hG hG2 hv
              · cases hv)
            simpa using this
          have h2 := run_bytesToString w ⟨b, off, none⟩ xs.length cap _ hl
          rw [fold_push] at h2
          simp [convert, run_underlying hs, run_underlying hd, run_underlying hue, h2, vbytes]
    · cases h
  · rename_i e hs hd
    split at h
    · rename_i hue
      simp only [ok, Option.some.injEq, Prod.mk.injEq, true_and] at h
      subst h
      rw [trep_nilsl] at hx
      refine does_val he (u := .string ⟨([] : List UInt8).toArray⟩) ?_ (trep_str.2 rfl)
      rw [hx]
      simp [convert, run_underlying hs, run_underlying hd, run_underlying hue, Conv.bytesToString]
      rfl
    · cases h
  · cases h
/-- What the evaluator takes for granted of the state in which an operation is taken. -/
theorem opR_sound (hE : EOk E) (hP : E.P = P) (hG : GOk g.G w) (hO : OOk B g w) (hBx : BOk B g bx w) (hB : B ≤ w.heap.size) (hr : ∀ y, trep g (evalO E fr y) (ac.eval y)) {eff : Eff} (h : opR E fr bx o = some (true, eff)) : Does P ac.eval o B w g bx eff := by
  subst hP
  have hok : ∀ {v : V} {u : Value}, execOp ac.eval o = pure (.value u) → trep g v u → Does E.P ac.eval o B w g bx (.val v) := fun h1 h2 => ⟨_, by rw [h1]; rfl, h2⟩
  unfold opR at h
  simp only at h
  split at h
  · -- move
    rename_i x ho
    simp only [ok, Option.some.injEq, Prod.mk.injEq, true_and] at h
    subst h
    exact hok (by simp only [execOp, ho]) (hr x)
  · -- assign
    rename_i x ho
    have hx := hr x
    split at h
    · rename_i hX
      rw [hX, trep_nilsl] at hx
      split at h
      · rename_i e sh z hel
        simp only [Option.some.injEq, Prod.mk.injEq, true_and] at h
        subst h
        obtain ⟨_, _, _, _, _, _, _, _, h0, _⟩ := elemOf_spec hel
        exact ⟨.slice none 0 0, w, g.G, by simp only [execOp, ho, hx]; rfl, ⟨Below.refl _ _, fun _ _ => rfl, hG⟩, h0, .inl ⟨rfl, rfl⟩⟩
      · simp only [ok, Option.some.injEq, Prod.mk.injEq, true_and] at h
        subst h
        exact hok (by simp only [execOp, ho]) (trep_nilsl.2 hx)
    · simp only [ok, Option.some.injEq, Prod.mk.injEq, true_and] at h
      subst h
      exact hok (by simp only [execOp, ho]) hx
  · -- pick
    rename_i c x y ho
    have hc := hr c
    split at h
    · rename_i b hb
      simp only [Option.some.injEq, Prod.mk.injEq, true_and] at h
      subst h
      rw [hb, trep_bool] at hc
      refine ⟨if b then ac.eval x else ac.eval y, ?_, ?_⟩
      · simp only [execOp, ho, hc, Go.asBool, Sem.run_bind, Sem.run_pure, Result.andThen_ok]
      · cases b
        · exact hr y
        · exact hr x
    · cases h
  · -- alloc
    rename_i t ho
    split at h
    · rename_i i hi
      split at h
      · rename_i z hz
        split at h
        · rename_i cs hcs
          simp only [Option.some.injEq, Prod.mk.injEq, true_and] at h
          subst h
          exact alloc_sound ho hi hz hcs
        · cases h
      · cases h
    · cases h
  · -- box
    rename_i t x ho
    split at h
    · rename_i cs hcs
      simp only [Option.some.injEq, Prod.mk.injEq, true_and] at h
      subst h
      exact box_sound ho hr hcs
    · cases h
  · rename_i t parts ho
    exact build_sound ho hr h
  · rename_i t n parts ho
    exact buildSlice_sound ho hG hr h
  · -- load
    rename_i t a ho
    have ha := hr a
    split at h
    · rename_i sh x off hX
      rw [hX] at ha
      exact loadV_sound ho hG ha h
    · rename_i k off hX
      rw [hX] at ha
      split at h
      · rename_i cells hl
        obtain ⟨l1, l2⟩ := loadBx_sound ho hBx ha hl
        split at h
        · rename_i n hag hs
          split at h
          · rename_i cs hcs
            simp only [ok, Option.some.injEq, Prod.mk.injEq, true_and] at h
            subst h
            exact l1 n cs hag hs hcs
          · cases h
        · rename_i hag
          have hh := cond_some h
          obtain ⟨h1, h2⟩ := hh
          simp only [ok, Option.some.injEq, Prod.mk.injEq, true_and] at h2
          subst h2
          exact l2 hag (by simpa [Nat.blt_eq] using h1)
        · cases h
      · cases h
    · cases h
  · -- store
    rename_i t a x ho
    split at h
    · rename_i k off vs hX hv
      split at h
      · rename_i cells n hl hs
        have hh := cond_some h
        obtain ⟨h1, h2⟩ := hh
        simp only [Option.some.injEq, Prod.mk.injEq, true_and] at h2
        subst h2
        simp only [Bool.and_eq_true, beq_iff_eq] at h1
        exact store_sound ho hBx hr hX hv hl hs h1.1 (Nat.le_of_ble_eq_true h1.2)
      · cases h
    · cases h
  · -- nilCheck
    rename_i x ho
    have hx := hr x
    split at h
    · rename_i sh v off hX
      simp only [ok, Option.some.injEq, Prod.mk.injEq, true_and] at h
      subst h
      rw [hX] at hx
      obtain ⟨b, q, l, hp, _⟩ := trep_rptr.1 hx
      exact hok (u := ac.eval x) (by simp only [execOp, ho, hp]) hx
    · rename_i k off hX
      simp only [ok, Option.some.injEq, Prod.mk.injEq, true_and] at h
      subst h
      rw [hX] at hx
      obtain ⟨b, _, hp⟩ := trep_box.1 hx
      exact hok (u := ac.eval x) (by simp only [execOp, ho, hp]) hx
    · cases h
  · -- binOp
    rename_i op t x y yt ho
    refine binT_sound ho (hr x) (hr y) h ?_
    clear h
    intro eff h
    have hh := cond_some h
    clear h
    obtain ⟨h1, h⟩ := hh
    unfold resV at h
    split at h
    · rename_i c v hv
      simp only [Option.some.injEq, Prod.mk.injEq] at h
      obtain ⟨rfl, rfl⟩ := h
      refine binOp_sound ho (hr x) (hr y) hv ?_
      intro a b ha _
      rw [ha] at h1
      unfold boolOk at h1
      split at h1
      · split at h1
        · assumption
        · cases h1
      · rename_i hne; exact absurd rfl (hne _)
    · cases h
  · -- unOp
    rename_i op t x ho
    have hx := hr x
    split at h
    · rename_i b hX
      simp only [ok, Option.some.injEq, Prod.mk.injEq, true_and] at h
      subst h
      rw [hX, trep_bool] at hx
      exact ⟨.bool (bnot b), by simp only [execOp, ho, hx, Op.unary, Sem.run_bind, Sem.run_pure, Result.andThen_ok]; rfl, trep_bool.2 rfl⟩
    · rename_i k n hX
      simp only [ok, Option.some.injEq, Prod.mk.injEq, true_and] at h
      subst h
      rw [hX, trep_int] at hx
      exact ⟨.int k (isub k 0 n), by simp only [execOp, ho, hx, Op.unary, Op.intArith, Sem.run_bind, Sem.run_pure, Result.andThen_ok]; rfl, trep_int.2 rfl⟩
    · cases h
  · rename_i src dst x ho
    exact conv_sound ho hG (hr x) h
  · -- makeFunc
    rename_i f first caps ho
    have hh := cond_some h
    obtain ⟨h1, h2⟩ := hh
    simp only [ok, Option.some.injEq, Prod.mk.injEq, true_and] at h2
    subst h2
    rw [Bool.and_eq_true] at h1
    obtain ⟨h1, hsg⟩ := h1
    have hf0 : first = #[] := by
      have : first.size = 0 := by simpa using h1
      exact Array.eq_empty_of_size_eq_zero this
    subst hf0
    refine ⟨.func (.func f) #[] (caps.map ac.eval), by simp [execOp, ho, Instr.makeFunc], ?_⟩
    refine ⟨caps.toList.map ac.eval, by rw [← Array.toList_map], by simp, fun i x v hx hv => ?_⟩
    rw [List.all_eq_true] at hsg
    have hxs := hsg x (List.mem_of_getElem? hx)
    simp only [List.getElem?_map] at hx hv
    cases hi : caps.toList[i]? with
    | none => rw [hi] at hx; cases hx
    | some y =>
      rw [hi] at hx hv
      simp only [Option.map_some, Option.some.injEq] at hx hv
      subst hx; subst hv
      exact trep_single hxs (hr y)
  · rename_i t l c ho
    exact makeV_sound ho hG (hr l) (hr c) h
  · rename_i t x lo hi ho
    exact slice_sound ho hr h
  · -- fieldAddr
    rename_i t x f ho
    split at h
    · rename_i fd hf
      split at h
      · cases h
      · rename_i n hn hs
        have hx := hr x
        have hn0 : n ≠ 0 := fun e => hn e
        split at h
        · rename_i sh v off hX
          simp only [ok, Option.some.injEq, Prod.mk.injEq, true_and] at h
          subst h
          rw [hX] at hx
          obtain ⟨b, q, l, hp, hG2, hfit, u, hu, hc⟩ := trep_rptr.1 hx
          exact ⟨.pointer (some ⟨b, q + off + fd.offset, none⟩), by simp only [execOp, ho, hp, Sem.run_bind, fieldAddr_run hf hs hn0, Result.andThen_ok, Sem.run_pure], trep_rptr.2 ⟨b, q, l, by rw [Nat.add_assoc], hG2, hfit, u, hu, hc⟩⟩
        · rename_i k off hX
          simp only [ok, Option.some.injEq, Prod.mk.injEq, true_and] at h
          subst h
          rw [hX] at hx
          obtain ⟨b, hb, hp⟩ := trep_box.1 hx
          exact ⟨.pointer (some ⟨b, off + fd.offset, none⟩), by simp only [execOp, ho, hp, Sem.run_bind, fieldAddr_run hf hs hn0, Result.andThen_ok, Sem.run_pure], trep_box.2 ⟨b, hb, rfl⟩⟩
        · cases h
      · cases h
    · cases h
  · -- field
    rename_i t x f ho
    split at h
    · rename_i fd cs hf hX
      have hx := hr x
      rw [hX] at hx
      exact partOf_sound ho hf hx h
    · cases h
  · -- indexAddr
    rename_i t x i ho
    split at h
    · rename_i k n hX
      have hi := hr i
      rw [hX, trep_int] at hi
      have hx := hr x
      split at h
      · rename_i k off hB
        rw [hB] at hx
        exact boxAddr_sound ho hx hi h
      · exact indexAddr_sound ho hx hi h
    · cases h
  · -- index
    rename_i t x i ho
    split at h
    · rename_i k n hX
      have hi := hr i
      rw [hX, trep_int] at hi
      have hx := hr x
      split at h
      · rename_i cs hB
        rw [hB] at hx
        exact aggIndex_sound ho hx hi h
      · exact index_sound ho hx hi h
    · cases h
  · -- extract
    rename_i x i ho
    split at h
    · rename_i vs hX
      have hx := hr x
      rw [hX] at hx
      have hh := cond_some h
      obtain ⟨h1, h2⟩ := hh
      simp only [ok, Option.some.injEq, Prod.mk.injEq, true_and] at h2
      subst h2
      rw [Bool.and_eq_true] at h1
      exact extract_sound ho hx (by simpa [Nat.blt_eq] using h1.1) h1.2
    · cases h
  · -- call
    rename_i c ho
    split at h
    · rename_i f hcal
      split at h
      · rename_i id caps hf
        split at h
        · rename_i args hargs
          have hh := cond_some h
          clear h
          obtain ⟨hb, h⟩ := hh
          simp only [Option.some.injEq, Prod.mk.injEq, true_and] at h
          subst h
          have hfv := hr f
          rw [hf] at hfv
          obtain ⟨a, hfa, hpa⟩ := hfv
          obtain ⟨callee, cargs, ctypes⟩ := c
          simp only at hcal hargs
          subst hcal
          have hps : PW (trep g) (cargs.toList.map (evalO E fr)) (cargs.toList.map ac.eval) := ⟨by simp, fun i x v hx hv => by
            simp only [List.getElem?_map] at hx hv
            cases hi : cargs.toList[i]? with
            | none => rw [hi] at hx; cases hx
            | some y =>
              rw [hi] at hx hv
              simp only [Option.map_some, Option.some.injEq] at hx hv
              subst hx; subst hv
              exact hr y⟩
          refine ⟨cargs.toList.map ac.eval ++ a, ?_, ?_⟩
          · have hcf : ∀ args, (callFunc id args).run E.P w = .ok (.enter id args) w := by
              intro args
              unfold hasBody at hb
              split at hb
              · rename_i fn hfn
                have hname : fn.name ≠ "runtime.NumGoroutine" := by
                  have := Array.all_eq_true_iff_forall_mem.1 hE.names fn (Array.mem_of_getElem? hfn)
                  have hbn : fn.body.isNone = false := by cases hq : fn.body with | none => rw [hq] at hb; cases hb | some _ => rfl
                  rw [hbn] at this
                  simpa using this
                obtain ⟨bd, hbd⟩ := Option.isSome_iff_exists.1 hb
                simp [callFunc, hfn, hname, hbd]
              · cases hb
            simp only [execOp, ho, resolve, Deferred.ofValue, hfa, invoke, Sem.run_bind, Sem.run_pure, Result.andThen_ok, hcf]
            simp
          · exact deepL_gen (R := fun x v => trep g x v ∨ srep g x v) (fun x y v hv hd => hv.elim (fun h => trep_deep h hd) (fun h => srep_deep h hd)) _ _ _ hargs ((hps.mono fun _ _ _ => .inl).append (hpa.mono fun _ _ _ => .inr))
        · cases h
      · cases h
    · rename_i hcal
      split at h
      · rename_i x y ha
        exact minmax_sound (great := false) ho hcal ha (hr x) (hr y) h
      · cases h
    · rename_i hcal
      split at h
      · rename_i x y ha
        exact minmax_sound (great := true) ho hcal ha (hr x) (hr y) h
      · cases h
    · rename_i hcal
      split at h
      · rename_i t x ht hx
        exact len_sound ho hcal ht hx (hr x) h
      · cases h
    · rename_i hcal
      split at h
      · rename_i s x ha
        exact append_sound ho hcal ha hG hO hB (hr s) (hr x) h
      · cases h
    · cases h
  · cases h
end
end Nt.Ev
