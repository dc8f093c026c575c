/-
  slices.Clone of rules, by hand. slices.Clone of rules; rules without those that make something hold. A rule's cells in memory. force.of, by hand. force.of's contract; At and Next.
-/
import Derived.Test.YtheojhajckcdlaaGreatDoorMXI
import Derived.Test.YtheojhajckcdlaaGreatDoorMXF
import Derived.Test.YtheojhajckcdlaaGreatDoorMS
import Derived.WalkKit
import Derived.Test.YtheojhajckcdlaaGreatDoorMZ
set_option linter.unusedVariables false
set_option linter.unusedSimpArgs false
set_option linter.unusedSectionVars false
namespace Go.Proofs.YtheojhajckcdlaaGreatDoor
open Go Go.RowKit Go.Shelf Nt Nt.Maps
theorem infoRl : (Tryz.prog.info? 41).map (fun i => (i.zero, i.size, i.bytes)) = some (some (.agg #[.string ⟨#[]⟩, .int .i64 0, .int .i64 0, .int .i64 0, .int .i64 0, .int .i64 0, .int .i64 0, .int .i64 0, .int .i64 0, .int .i64 0, .string ⟨#[]⟩]), 11, 104) := by kernel_rfl
set_option maxRecDepth 100000 in
set_option maxHeartbeats 2000000 in
theorem clone_walk (p : Option Addr) (n cap : Nat) (w : World) (news : List Value) (hn : n ≤ 1000) (hl : news.length = n * 11) (h0 : p = none → n = 0) (hc : ∀ a, p = some a → ∀ j u, news[j]? = some u → w.cell? (a.add j) = some u) (hone : ∀ u ∈ news, u.oneCell' = true) (hlt : ∀ a, p = some a → 0 < n → a.block < w.heap.size) :
    Calls Tryz.prog 34 #[.slice p n cap] w fun e w' => ∃ v, e = .returned v ∧ w'.ownsRow w.heap.size 41 11 v n news ∧ Below w.heap.size w w' := by
  have hnil := Lib.run_eql_slice_nil (P := Tryz.prog) w 22 41 p n cap 0 0 Tryz.underlying22
  go_enter Tryz.func34, Tryz.ntmps34
  cases p with
  | none =>
    obtain rfl := h0 rfl
    obtain rfl : news = [] := List.eq_nil_of_length_eq_zero (by simpa using hl)
    clear h0 hc hone hlt hl hn
    go_wp2
    go_ret
    exact ⟨_, rfl, World.ownsRow_nil w _ _ _, Below.refl _ _⟩
  | some a =>
    obtain ⟨i0, hi, hz0, hz1, hz2⟩ := info_parts infoRl
    have hnews : ∀ j u, news[j]? = some u → (w.alloc (Obj.cells #[] 41)).cell? (a.add j) = some u := by
      intro j u hj
      have h1 := hc a rfl j u hj
      have hjl := (List.getElem?_eq_some_iff.1 hj).1
      have := World.block_lt_of_cell? w _ h1
      exact ((below_alloc w (Obj.cells #[] 41)).cell this).trans h1
    have hown : (w.alloc (Obj.cells #[] 41)).ownsRow w.heap.size 41 11 (.slice (some ⟨w.heap.size, 0, none⟩) 0 0) 0 [] := ⟨rfl, .inr ⟨w.heap.size, 0, #[], rfl, Nat.le_refl _, heap_alloc_new w _, Nat.le_refl _, Nat.zero_le _, rfl, rfl⟩⟩
    have hA := below_alloc w (Obj.cells #[] 41)
    have hsz : w.heap.size ≤ (w.alloc (Obj.cells #[] 41)).heap.size := by simp
    clear h0 hc hlt
    go_wp2_with (first
      | (at_builtin; refine wpList_append_own _ rfl _ _ _ rfl w.heap.size 41 i0 _ 11 104 Tryz.underlying22 hi hz0 hz1 hz2 rfl (by decide) _ 0 [] rfl hown a n cap news rfl hl hnews hone (by unfold maxLen; omega) (by omega) hsz ?_; intro v' w' ho hg _; rw [Nat.zero_add, List.nil_append] at ho)
      | go_in)
    go_ret
    exact ⟨_, rfl, ho, hA.grown hg hsz (fun q hq => by cases hq; exact Nat.le_refl _)⟩
end Go.Proofs.YtheojhajckcdlaaGreatDoor

namespace Nt.Ev.YtheojhajckcdlaaGreatDoor.Fo
set_option maxRecDepth 100000
open Go Go.RowKit Nt Nt.Num Go.Proofs.YtheojhajckcdlaaGreatDoor Nt.Ev.YtheojhajckcdlaaGreatDoor Nt.Civil Nt.Ev.YtheojhajckcdlaaGreatDoor.Rl Nt.Ev.YtheojhajckcdlaaGreatDoor.Oc Nt.Ev.YtheojhajckcdlaaGreatDoor.Un Nt.Ev.YtheojhajckcdlaaGreatDoor.On Nt.Ev.YtheojhajckcdlaaGreatDoor.Cn
theorem gok_bel {G : Known} {w w' : World} (h : GOk G w) (hb : Below w.heap.size w w') : GOk G w' := fun b l hl => by
  obtain ⟨c, e, fr, h1, h2⟩ := h b l hl
  exact ⟨c, e, fr, heap_ext h1 hb, h2⟩
theorem gok_upd {G : Known} {w' : World} {g : Nat} {news : List Value} {c : Array Value} {e : Nat} {fr : Nat × Nat} (hG : GOk G w') (h : w'.heap[g]? = some (.cells c e fr)) (ht : c.toList.take news.length = news) : GOk (upd G g news) w' := fun b l hl => by
  unfold upd at hl
  by_cases hb : b = g
  · rw [if_pos hb] at hl
    cases hl
    subst hb
    exact ⟨c, e, fr, h, ht⟩
  · rw [if_neg hb] at hl
    exact hG b l hl
theorem res_own {G : Known} {w w' : World} {e : Nat} {sh : List Kd} {xs : List V} {v : Value} {news : List Value} (hG : GOk G w) (hB : Below w.heap.size w w') (hown : w'.ownsRow w.heap.size e sh.length v xs.length news) (hsh : 0 < sh.length) (hfl : sh.all flatK = true) (hE : repE G sh xs news) :
    ∃ G', New w w' G G' ∧ resrep G' w' (w.heap.size ≤ ·) (.sl e sh (some 0) xs) v := by
  obtain ⟨hl, hv | ⟨g, cap, cur, rfl, hbg, hh, hnc, hcm, hcs, htk⟩⟩ := hown
  · exact ⟨G, ⟨hB, fun _ _ => rfl, gok_bel hG hB⟩, hsh, .inl ⟨hv.1, List.eq_nil_of_length_eq_zero hv.2⟩⟩
  · refine ⟨upd G g news, ⟨hB, fun b hb => ?_, gok_upd (gok_bel hG hB) hh (by rw [hl]; exact htk)⟩, hsh, .inr ⟨g, cap, cur, news, rfl, hbg, hh, hnc, hcm, hcs, upd_same _ _ _, hl, repE_flat hfl _ _ hE⟩⟩
    unfold upd
    rw [if_neg (by omega)]
variable [MLen]
theorem fClS_ok (e : Nat) (o1 : Option Nat) (xs : List V) (hc : ile (llen xs) 1000 = true) : Contract jE 34 [.sl e [.str, .int .i64, .int .i64, .int .i64, .int .i64, .int .i64, .int .i64, .int .i64, .int .i64, .int .i64, .str] o1 xs] (.sl 41 [.str, .int .i64, .int .i64, .int .i64, .int .i64, .int .i64, .int .i64, .int .i64, .int .i64, .int .i64, .str] (some 0) xs) := by
  intro G w vs hG hg hp
  obtain ⟨x, rfl, hx⟩ := PW_one hp
  rw [ile_iff, llen_nat] at hc
  unfold rep at hx
  obtain ⟨p, cap, rfl, hcap, h⟩ := hx
  have key : ∃ news : List Value, news.length = xs.length * 11 ∧ repE G [.str, .int .i64, .int .i64, .int .i64, .int .i64, .int .i64, .int .i64, .int .i64, .int .i64, .int .i64, .str] xs news ∧ (p = none → xs.length = 0) ∧ (∀ a, p = some a → ∀ j u, news[j]? = some u → w.cell? (a.add j) = some u) ∧ (∀ u ∈ news, u.oneCell' = true) ∧ (∀ a, p = some a → 0 < xs.length → a.block < w.heap.size) := by
    rcases h with rfl | ⟨b, off, l, rfl, hGb, hE⟩
    · exact ⟨[], rfl, repE_nil, fun _ => rfl, fun a _ j u hj => by simp at hj, fun u hu => by simp at hu, fun a _ h => absurd h (by simp)⟩
    · obtain ⟨h1, h2⟩ := repE_cells _ _ hE
      have h1 : xs.length * 11 ≤ (l.drop off).length := h1
      have h3 := repE_one _ _ hE
      refine ⟨(l.drop off).take (xs.length * 11), by rw [List.length_take]; omega, h2, (fun h => by cases h), fun a ha j u hj => ?_, h3, fun a ha _ => ?_⟩
      · cases ha
        rw [List.getElem?_take] at hj
        split at hj
        · rw [List.getElem?_drop] at hj
          rw [Addr.add_lit]
          exact known_cell hG hGb hj
        · cases hj
      · cases ha
        exact known_lt hG hGb
  obtain ⟨news, k1, k2, k3, k4, k5, k6⟩ := key
  refine (clone_walk p xs.length cap w news (by omega) k1 k3 k4 k5 k6).mono ?_
  rintro e w' ⟨v, rfl, ho, hB⟩
  obtain ⟨G', h1, h2⟩ := res_own (sh := [.str, .int .i64, .int .i64, .int .i64, .int .i64, .int .i64, .int .i64, .int .i64, .int .i64, .int .i64, .str]) hG hB ho (by decide) (by rfl) k2
  exact ⟨v, G', rfl, h1, h2⟩
theorem foSC_ok : SOk jE foSC := by
  unfold foSC
  refine SOk.cons (fun args r h => ?_) (foS1_ok)
  · unfold fClS at h
    split at h
    · simp only [Option.some.injEq, Prod.mk.injEq] at h
      obtain ⟨hc, rfl⟩ := h
      exact fClS_ok _ _ _ hc
    · cases h
theorem ot_len {xs vs : List V} (h : xs.length = vs.length) (a0 a1 : Int) (a2 : List UInt8) : (otL xs vs a0 a1 a2).length = xs.length := by
  unfold otL
  rw [List.length_zipWith]; omega
theorem ot_get {xs vs : List V} (h : xs.length = vs.length) (a0 a1 : Int) (a2 : List UInt8) (i : Nat) (hi : i < xs.length) : (otL xs vs a0 a1 a2)[i]? = some (otE a0 a1 a2 (lget xs i) (lget vs i)) := by
  unfold otL lget
  rw [List.getElem?_zipWith, List.getD_eq_getElem?_getD, List.getD_eq_getElem?_getD, Int.toNat_natCast, List.getElem?_eq_getElem hi, List.getElem?_eq_getElem (show i < vs.length by omega)]
  rfl
theorem ot_step {L xs : List V} (hL : L.length = xs.length) {i : Nat} (hi : i < xs.length) : lget (L.take i ++ xs.drop i) i = lget xs i ∧ ∀ u, L[i]? = some u → L.take (i + 1) ++ xs.drop (i + 1) = lset (L.take i ++ xs.drop i) i u := by
  have hl : (L.take i).length = i := by rw [List.length_take]; omega
  constructor
  · unfold lget
    rw [List.getD_eq_getElem?_getD, List.getD_eq_getElem?_getD, Int.toNat_natCast, List.getElem?_append_right (by omega), hl, Nat.sub_self, List.getElem?_drop, Nat.add_zero]
  · intro u hu
    unfold lset
    rw [Int.toNat_natCast, List.set_append_right _ _ (by omega), hl, Nat.sub_self, List.drop_eq_getElem_cons hi, List.set_cons_zero, List.take_add_one, hu]
    simp
theorem ot_loop (F : Nat) (xs vs : List V) (o k v : Int) (r q : List UInt8) (h : Bool) (y m ok ow od c b : Int) (a0 a1 : Int) (a2 : List UInt8) (hlen : xs.length = vs.length) (hn : xs.length ≤ 1000) (K : V → Option V) : ∀ (n i G : Nat), i + n = xs.length → n < G →
    fOt_L0 F [] G o k v r q h y m ok ow od c b xs vs a0 a1 a2 ((otL xs vs a0 a1 a2).take i ++ xs.drop i) (llen xs) i a0 a1 a2 K = K (.sl 41 [.str, .int .i64, .int .i64, .int .i64, .int .i64, .int .i64, .int .i64, .int .i64, .int .i64, .int .i64, .str] (some 5) (otL xs vs a0 a1 a2)) := by
  have hL := ot_len hlen a0 a1 a2
  intro n
  induction n with
  | zero =>
    intro i G h1 h2
    obtain ⟨G, rfl⟩ := Nat.exists_eq_succ_of_ne_zero (show G ≠ 0 by omega)
    rw [fOt_L0_succ, sel_neg (ilt_f (by rw [llen_nat]; omega)), List.drop_eq_nil_of_le (by omega), List.append_nil, List.take_of_length_le (by omega)]
  | succ n ih =>
    intro i G h1 h2
    obtain ⟨G, rfl⟩ := Nat.exists_eq_succ_of_ne_zero (show G ≠ 0 by omega)
    have hi : i < xs.length := by omega
    have e1 : (i : Int) + 1 = ((i + 1 : Nat) : Int) := by omega
    obtain ⟨g1, g2⟩ := ot_step hL hi
    have g3 := g2 _ (ot_get hlen a0 a1 a2 i hi)
    rw [fOt_L0_succ, sel_pos (ilt_t (by rw [llen_nat]; omega)), sel_pos (by rw [band_iff, ile_iff, ilt_iff, llen_nat]; omega), iadd64 (by omega), e1]
    unfold otE at g3
    cases hcc : band (ieq (asInt (acell (lget vs i) 0)) a0) (band (ieq (asInt (acell (lget vs i) 1)) a1) (seq (asStr (acell (lget vs i) 2)) a2)) with
    | true =>
      rw [hcc] at g3
      rw [sel_pos rfl, sel_pos (by rw [band_iff, ile_iff, ilt_iff, llen_nat, List.length_append, List.length_take, List.length_drop]; omega), g1]
      rw [show sel true (aset (lget xs i) 0 (V.str [])) (lget xs i) = aset (lget xs i) 0 (V.str []) from rfl] at g3
      rw [← g3]
      exact ih (i + 1) G (by omega) (by omega)
    | false =>
      rw [hcc] at g3
      rw [sel_neg rfl]
      have g4 : lset ((otL xs vs a0 a1 a2).take i ++ xs.drop i) i (lget xs i) = (otL xs vs a0 a1 a2).take i ++ xs.drop i := by
        unfold lset
        rw [Int.toNat_natCast]
        have : ((otL xs vs a0 a1 a2).take i ++ xs.drop i)[i]? = some (lget xs i) := by
          rw [← g1]
          unfold lget
          rw [List.getD_eq_getElem?_getD, Int.toNat_natCast, List.getElem?_eq_getElem (by rw [List.length_append, List.length_take, List.length_drop]; omega)]
          rfl
        obtain ⟨q1, q2⟩ := List.getElem?_eq_some_iff.1 this
        rw [← q2]
        exact List.set_getElem_self q1
      rw [show sel false (aset (lget xs i) 0 (V.str [])) (lget xs i) = lget xs i from rfl, g4] at g3
      rw [← g3]
      exact ih (i + 1) G (by omega) (by omega)
theorem fOtS_ok (kk : List Kd) (o k v : Int) (r q : List UInt8) (h : Bool) (y m ok ow od c b : Int) (er : Nat) (or_ : Option Nat) (xs : List V) (ev : Nat) (ov : Option Nat) (vs : List V) (a0 a1 : Int) (a2 : List UInt8) (hc : band (ile (llen xs) 1000) (ieq (llen xs) (llen vs)) = true) : Contract jE 18 [.rptr kk (.agg [.int .i64 o, .int .i64 k, .int .i64 v, .str r, .str q, .bool h, .int .i64 y, .int .i64 m, .int .i64 ok, .int .i64 ow, .int .i64 od, .int .i64 c, .int .i64 b, .sl er [.str, .int .i64, .int .i64, .int .i64, .int .i64, .int .i64, .int .i64, .int .i64, .int .i64, .int .i64, .str] or_ xs, .sl ev [.int .i64, .int .i64, .str] ov vs]) 0, .agg [.int .i64 a0, .int .i64 a1, .str a2]] (.sl 41 [.str, .int .i64, .int .i64, .int .i64, .int .i64, .int .i64, .int .i64, .int .i64, .int .i64, .int .i64, .str] (some 0) (otL xs vs a0 a1 a2)) := by
  obtain ⟨h1, h2⟩ := b2 hc
  refine liftV ?_
  have h := contract_of_old (args := [V.old (V.rptr [.int .i64, .int .i64, .int .i64, .str, .str, .bool, .int .i64, .int .i64, .int .i64, .int .i64, .int .i64, .int .i64, .int .i64, .sl 41 [.str, .int .i64, .int .i64, .int .i64, .int .i64, .int .i64, .int .i64, .int .i64, .int .i64, .int .i64, .str], .sl 32 [.int .i64, .int .i64, .str]] (V.agg [V.int .i64 o, V.int .i64 k, V.int .i64 v, V.str r, V.str q, V.bool h, V.int .i64 y, V.int .i64 m, V.int .i64 ok, V.int .i64 ow, V.int .i64 od, V.int .i64 c, V.int .i64 b, V.sl 41 [.str, .int .i64, .int .i64, .int .i64, .int .i64, .int .i64, .int .i64, .int .i64, .int .i64, .int .i64, .str] none xs, V.sl 32 [.int .i64, .int .i64, .str] none vs]) 0), V.agg [V.int .i64 a0, V.int .i64 a1, V.str a2]]) (r := .sl 41 [.str, .int .i64, .int .i64, .int .i64, .int .i64, .int .i64, .int .i64, .int .i64, .int .i64, .int .i64, .str] (some 5) (otL xs vs a0 a1 a2)) jE_ok foSC_ok 2000 3 (by
    rw [fOt_top, sel_pos h1]
    rw [ile_iff, llen_nat] at h1
    rw [ieq_iff, llen_nat, llen_nat] at h2
    have := ot_loop 2000 xs vs o k v r q h y m ok ow od c b a0 a1 a2 (by omega) (by omega) some xs.length 0 2000 (by omega) (by omega)
    rw [List.take_zero, List.nil_append, List.drop_zero] at this
    exact this)
  exact h
end Nt.Ev.YtheojhajckcdlaaGreatDoor.Fo

namespace Go.Proofs.YtheojhajckcdlaaGreatDoor
open Go Go.RowKit Nt Nt.Maps Nt.Ev Nt.Ev.YtheojhajckcdlaaGreatDoor
abbrev rowR (nm : ByteArray) (a : Nat → Int) (l : ByteArray) : Array Value := #[.string nm, .int .i64 (a 1), .int .i64 (a 2), .int .i64 (a 3), .int .i64 (a 4), .int .i64 (a 5), .int .i64 (a 6), .int .i64 (a 7), .int .i64 (a 8), .int .i64 (a 9), .string l]
def CellsR (w : World) (b off : Nat) (nm : ByteArray) (a : Nat → Int) (l : ByteArray) : Prop := w.cell? ⟨b, off, none⟩ = some (.string nm) ∧ w.cell? ⟨b, off + 1, none⟩ = some (.int .i64 (a 1)) ∧ w.cell? ⟨b, off + 2, none⟩ = some (.int .i64 (a 2)) ∧ w.cell? ⟨b, off + 3, none⟩ = some (.int .i64 (a 3)) ∧ w.cell? ⟨b, off + 4, none⟩ = some (.int .i64 (a 4)) ∧ w.cell? ⟨b, off + 5, none⟩ = some (.int .i64 (a 5)) ∧ w.cell? ⟨b, off + 6, none⟩ = some (.int .i64 (a 6)) ∧ w.cell? ⟨b, off + 7, none⟩ = some (.int .i64 (a 7)) ∧ w.cell? ⟨b, off + 8, none⟩ = some (.int .i64 (a 8)) ∧ w.cell? ⟨b, off + 9, none⟩ = some (.int .i64 (a 9)) ∧ w.cell? ⟨b, off + 10, none⟩ = some (.string l)
theorem CellsR.below {w w' : World} {B b off : Nat} {nm l : ByteArray} {a : Nat → Int} (h : CellsR w b off nm a l) (hb : Below B w w') (hlt : b < B) : CellsR w' b off nm a l := by
  obtain ⟨h0, h1, h2, h3, h4, h5, h6, h7, h8, h9, h10⟩ := h
  exact ⟨(hb.cell hlt).trans h0, (hb.cell hlt).trans h1, (hb.cell hlt).trans h2, (hb.cell hlt).trans h3, (hb.cell hlt).trans h4, (hb.cell hlt).trans h5, (hb.cell hlt).trans h6, (hb.cell hlt).trans h7, (hb.cell hlt).trans h8, (hb.cell hlt).trans h9, (hb.cell hlt).trans h10⟩
theorem CellsR.new (w : World) (nm : ByteArray) (a : Nat → Int) (l : ByteArray) (e : TypeId) : CellsR (w.alloc (Obj.cells (rowR nm a l) e)) w.heap.size 0 nm a l := by
  have h := heap_alloc_new w (Obj.cells (rowR nm a l) e)
  unfold CellsR
  refine ⟨?_, ?_, ?_, ?_, ?_, ?_, ?_, ?_, ?_, ?_, ?_⟩ <;> (unfold World.cell?; rw [h]; rfl)
theorem CellsR.heap {w w' : World} {b off : Nat} {nm l : ByteArray} {a : Nat → Int} (h : CellsR w b off nm a l) (hb : w'.heap[b]? = w.heap[b]?) : CellsR w' b off nm a l := by
  have e : ∀ i, w'.cell? ⟨b, i, none⟩ = w.cell? ⟨b, i, none⟩ := fun i => World.cell?_of_block (w := w) (w' := w') (a := ⟨b, i, none⟩) hb
  obtain ⟨h0, h1, h2, h3, h4, h5, h6, h7, h8, h9, h10⟩ := h
  exact ⟨(e _).trans h0, (e _).trans h1, (e _).trans h2, (e _).trans h3, (e _).trans h4, (e _).trans h5, (e _).trans h6, (e _).trans h7, (e _).trans h8, (e _).trans h9, (e _).trans h10⟩
theorem CellsR.lt {w : World} {b off : Nat} {nm l : ByteArray} {a : Nat → Int} (h : CellsR w b off nm a l) : b < w.heap.size := World.block_lt_of_cell? w _ h.1
def nmX (xs : List V) (k : Nat) : ByteArray := ⟨(Nt.Ev.asStr (acell (lget xs k) 0)).toArray⟩
def iaX (xs : List V) (k : Nat) (i : Nat) : Int := Nt.Ev.asInt (acell (lget xs k) i)
def ltX (xs : List V) (k : Nat) : ByteArray := ⟨(Nt.Ev.asStr (acell (lget xs k) 10)).toArray⟩
theorem fits_st {x : V} (h : fits .str x = true) : x = .str (Nt.Ev.asStr x) := by cases x <;> first | rfl | cases h
theorem fits_in {x : V} (h : fits (.int .i64) x = true) : x = .int .i64 (Nt.Ev.asInt x) := by
  cases x with
  | int k n =>
    have : IntKind.i64 = k := by simpa [fits] using h
    subst this; rfl
  | _ => cases h
theorem fitsL_c {k : Kd} {sh : List Kd} {ys : List V} (h : fitsL (k :: sh) ys = true) : ∃ x t, ys = x :: t ∧ fits k x = true ∧ fitsL sh t = true := by
  cases ys with
  | nil => cases h
  | cons x t =>
    unfold fitsL at h
    exact ⟨x, t, rfl, band_true h⟩
theorem rule_of {x : V} (h : fitsE [.str, .int .i64, .int .i64, .int .i64, .int .i64, .int .i64, .int .i64, .int .i64, .int .i64, .int .i64, .str] x = true) : x = .agg [.str (Nt.Ev.asStr (acell x 0)), .int .i64 (Nt.Ev.asInt (acell x 1)), .int .i64 (Nt.Ev.asInt (acell x 2)), .int .i64 (Nt.Ev.asInt (acell x 3)), .int .i64 (Nt.Ev.asInt (acell x 4)), .int .i64 (Nt.Ev.asInt (acell x 5)), .int .i64 (Nt.Ev.asInt (acell x 6)), .int .i64 (Nt.Ev.asInt (acell x 7)), .int .i64 (Nt.Ev.asInt (acell x 8)), .int .i64 (Nt.Ev.asInt (acell x 9)), .str (Nt.Ev.asStr (acell x 10))] := by
  cases x with
  | agg cs =>
    have h : fitsL [.str, .int .i64, .int .i64, .int .i64, .int .i64, .int .i64, .int .i64, .int .i64, .int .i64, .int .i64, .str] cs = true := h
    obtain ⟨x0, t, rfl, f0, h⟩ := fitsL_c h
    obtain ⟨x1, t, rfl, f1, h⟩ := fitsL_c h
    obtain ⟨x2, t, rfl, f2, h⟩ := fitsL_c h
    obtain ⟨x3, t, rfl, f3, h⟩ := fitsL_c h
    obtain ⟨x4, t, rfl, f4, h⟩ := fitsL_c h
    obtain ⟨x5, t, rfl, f5, h⟩ := fitsL_c h
    obtain ⟨x6, t, rfl, f6, h⟩ := fitsL_c h
    obtain ⟨x7, t, rfl, f7, h⟩ := fitsL_c h
    obtain ⟨x8, t, rfl, f8, h⟩ := fitsL_c h
    obtain ⟨x9, t, rfl, f9, h⟩ := fitsL_c h
    obtain ⟨x10, t, rfl, f10, h⟩ := fitsL_c h
    cases t with
    | cons _ _ => cases h
    | nil =>
      rw [fits_st f0, fits_in f1, fits_in f2, fits_in f3, fits_in f4, fits_in f5, fits_in f6, fits_in f7, fits_in f8, fits_in f9, fits_st f10]
      rfl
  | _ => cases h
theorem rules_cells {G : Known} {w : World} (hG : GOk G w) {e : Nat} {o : Option Nat} {xs : List V} {v : Value} (h : rep G (.sl e [.str, .int .i64, .int .i64, .int .i64, .int .i64, .int .i64, .int .i64, .int .i64, .int .i64, .int .i64, .str] o xs) v) :
    ∃ p cap, v = .slice p xs.length cap ∧ xs.length ≤ cap ∧ (xs = [] ∨ ∃ b off, p = some ⟨b, off, none⟩ ∧ b < w.heap.size ∧ ∀ k, k < xs.length → CellsR w b (off + k * 11) (nmX xs k) (iaX xs k) (ltX xs k)) := by
  unfold rep at h
  obtain ⟨p, cap, rfl, hcap, h⟩ := h
  refine ⟨p, cap, rfl, hcap, ?_⟩
  rcases h with h | ⟨b, off, l, rfl, hGb, hE⟩
  · exact .inl h
  · refine .inr ⟨b, off, rfl, known_lt hG hGb, fun k hk => ?_⟩
    have hx : xs[k]? = some (lget xs k) := by
      unfold lget
      rw [List.getD_eq_getElem?_getD, Int.toNat_natCast, List.getElem?_eq_getElem hk]; rfl
    obtain ⟨hf, u, hu, hcs⟩ := repE_get _ _ hE k _ hx
    have hcs : List.take 11 (List.drop (k * 11) (List.drop off l)) = u.cells.toList := hcs
    have hr := rule_of hf
    have hu2 : u = .agg (rowR (nmX xs k) (iaX xs k) (ltX xs k)) := by
      rw [hr] at hu
      unfold rep at hu
      obtain ⟨a, rfl, hu⟩ := hu
      simp only [repL, rep] at hu
      obtain ⟨_, _, rfl, rfl, hu⟩ := hu
      obtain ⟨_, _, rfl, rfl, hu⟩ := hu
      obtain ⟨_, _, rfl, rfl, hu⟩ := hu
      obtain ⟨_, _, rfl, rfl, hu⟩ := hu
      obtain ⟨_, _, rfl, rfl, hu⟩ := hu
      obtain ⟨_, _, rfl, rfl, hu⟩ := hu
      obtain ⟨_, _, rfl, rfl, hu⟩ := hu
      obtain ⟨_, _, rfl, rfl, hu⟩ := hu
      obtain ⟨_, _, rfl, rfl, hu⟩ := hu
      obtain ⟨_, _, rfl, rfl, hu⟩ := hu
      obtain ⟨_, _, rfl, rfl, rfl⟩ := hu
      rfl
    rw [hu2] at hcs
    have hcs : List.take 11 (List.drop (k * 11) (List.drop off l)) = (rowR (nmX xs k) (iaX xs k) (ltX xs k)).toList := hcs
    have g : ∀ i, i < 11 → ∀ u, (rowR (nmX xs k) (iaX xs k) (ltX xs k)).toList[i]? = some u → w.cell? ⟨b, off + k * 11 + i, none⟩ = some u := by
      intro i hi u hu
      refine known_cell hG hGb ?_
      rw [← hcs, List.getElem?_take, if_pos hi, List.getElem?_drop, List.getElem?_drop] at hu
      rw [← hu]
      congr 1
      omega
    exact ⟨g 0 (by omega) _ rfl, g 1 (by omega) _ rfl, g 2 (by omega) _ rfl, g 3 (by omega) _ rfl, g 4 (by omega) _ rfl, g 5 (by omega) _ rfl, g 6 (by omega) _ rfl, g 7 (by omega) _ rfl, g 8 (by omega) _ rfl, g 9 (by omega) _ rfl, g 10 (by omega) _ rfl⟩
end Go.Proofs.YtheojhajckcdlaaGreatDoor

namespace Go.Proofs.YtheojhajckcdlaaGreatDoor
open Go Go.RowKit Go.Shelf Nt Nt.Maps
set_option maxRecDepth 100000 in
set_option maxHeartbeats 2000000 in
theorem value_walk (g : Nat) (w : World) (o sv W : Int) (q l T : ByteArray) (h0 : w.cell? ⟨g, 0, none⟩ = some (.int .i64 o)) (h4 : w.cell? ⟨g, 4, none⟩ = some (.string q))
    (hab : ∀ w', Below w.heap.size w w' → Calls Tryz.prog 35 #[.string q, .int .i64 (wrap64 (o + sv)), .int .i64 sv, .string l] w' fun e w'' => e = .returned (.tuple #[.string T, .int .i64 W]) ∧ Below w'.heap.size w' w'') :
    Calls Tryz.prog 19 #[.pointer (some ⟨g, 0, none⟩), .int .i64 sv, .string l] w fun e w' => e = .returned (.agg #[.int .i64 (wrap64 (o + sv)), .int .i64 sv, .string T]) ∧ Below w.heap.size w w' := by
  go_enter Tryz.func19, Tryz.ntmps19
  have hin := below_alloc w (Obj.cells #[.int .i64 0, .int .i64 0, .string ⟨#[]⟩] 32)
  have hg : g < w.heap.size := World.block_lt_of_cell? w _ h0
  have k0 := (hin.cell hg).trans h0
  have k4 := (hin.cell hg).trans h4
  clear h0 h4
  go_wp2_with fail
  refine (hab _ hin).mono ?_
  rintro e w1 ⟨rfl, hB⟩
  have hb2 := hin.trans (hB.mono (by simp))
  have hc : w1.heap[w.heap.size]? = some (Obj.cells #[.int .i64 0, .int .i64 0, .string ⟨#[]⟩] 32) := (hB.block w.heap.size (by simp)).trans (heap_alloc_new w _)
  have h1c : (#[.int .i64 (wrap64 (o + sv)), .int .i64 sv, .string T] : Array Value).all (·.oneCell') = true := by simp [Value.oneCell']
  clear k0 k4 hab hin
  go_wp2_with (first
    | (refine wpList_store_row (ty := 32) (x := .tmp 6) (y := .tmp 32) rfl rfl w.heap.size #[.int .i64 (wrap64 (o + sv)), .int .i64 sv, .string T] rfl rfl 32 _ hc (by kernel_rfl) rfl h1c ?_)
    | go_in)
  refine bodyPost_ret (results_cell_row rfl _ _ w.heap.size 32 _ (0, 0) _ rfl (setRow_heap w1 w.heap.size _ _ 32 (0, 0) hc) Tryz.underlying32 rfl (by kernel_rfl)) rfl ⟨rfl, hb2.trans ⟨rfl, rfl, rfl, by simp [World.setRow], fun k hk => setRow_other w1 w.heap.size k _ (by omega)⟩⟩
theorem len3 (C : Nat → List Value) (hC : ∀ j, (C j).length = 3) (f : Nat → Nat) : ∀ l : List Nat, (l.flatMap C).length = l.length * 3
  | [] => rfl
  | x :: l => by rw [List.flatMap_cons, List.length_append, hC, len3 C hC f l, List.length_cons]; omega
theorem range_at {n k : Nat} (h : k < n) : List.range n = List.range k ++ k :: (List.range' (k + 1) (n - (k + 1))) := by
  have h1 := List.range'_append_1 (s := 0) (m := k) (n := n - k)
  rw [Nat.zero_add, show n - k = (n - (k + 1)) + 1 by omega, List.range'_succ, show k + (n - (k + 1) + 1) = n by omega] at h1
  rw [List.range_eq_range', List.range_eq_range', ← h1]
theorem set3 {C C' : Nat → List Value} (hC : ∀ j, (C j).length = 3) {n k : Nat} (hk : k < n) (h : ∀ j, j ≠ k → C' j = C j) :
    ((List.range n).flatMap C).take (k * 3) ++ C' k ++ ((List.range n).flatMap C).drop (k * 3 + 3) = (List.range n).flatMap C' := by
  rw [range_at hk, List.flatMap_append, List.flatMap_append, List.flatMap_cons, List.flatMap_cons]
  have hl : ((List.range k).flatMap C).length = k * 3 := by rw [len3 C hC id, List.length_range]
  have e1 : (List.range k).flatMap C' = (List.range k).flatMap C := by
    unfold List.flatMap
    congr 1
    refine List.map_congr_left fun j hj => h j ?_
    rw [List.mem_range] at hj; omega
  have e2 : (List.range' (k + 1) (n - (k + 1))).flatMap C' = (List.range' (k + 1) (n - (k + 1))).flatMap C := by
    unfold List.flatMap
    congr 1
    refine List.map_congr_left fun j hj => h j ?_
    rw [List.mem_range'_1] at hj; omega
  rw [e1, e2, ← hl, List.take_left]
  rw [show ((List.range k).flatMap C).length + 3 = ((List.range k).flatMap C ++ C k).length by rw [List.length_append, hC], ← List.append_assoc, List.drop_left, List.append_assoc]
theorem take3 {C : Nat → List Value} (hC : ∀ j, (C j).length = 3) {n k : Nat} (hk : k < n) : (((List.range n).flatMap C).drop (k * 3)).take 3 = C k := by
  rw [range_at hk, List.flatMap_append, List.flatMap_cons]
  have hl : ((List.range k).flatMap C).length = k * 3 := by rw [len3 C hC id, List.length_range]
  rw [← hl, List.drop_left]
  exact List.take_left' (hC k)
abbrev zero3 : List Value := [.int .i64 0, .int .i64 0, .string ⟨#[]⟩]
theorem made3 (n : Nat) : (madeCells #[.int .i64 0, .int .i64 0, .string ⟨#[]⟩] (n * 3)).toList = (List.range n).flatMap fun _ => zero3 := by
  have h : ∀ m, (madeCells #[.int .i64 0, .int .i64 0, .string ⟨#[]⟩] m).toList = (List.range m).map fun i => zero3.getD (i % 3) default := by
    intro m
    unfold madeCells
    rw [Array.toList_map, Array.toList_range]
    refine List.map_congr_left fun i _ => ?_
    have : i % 3 < 3 := Nat.mod_lt _ (by omega)
    show (#[Value.int .i64 0, .int .i64 0, .string ⟨#[]⟩] : Array Value)[i % 3]! = _
    match i % 3, this with
    | 0, _ => rfl
    | 1, _ => rfl
    | 2, _ => rfl
  rw [h]
  induction n with
  | zero => rfl
  | succ n ih =>
    rw [List.range_succ, List.flatMap_append, ← ih, show (n + 1) * 3 = n * 3 + 1 + 1 + 1 by omega, List.range_succ, List.range_succ, List.range_succ, List.map_append, List.map_append, List.map_append, List.append_assoc, List.append_assoc]
    congr 1
    simp only [List.map_cons, List.map_nil, show n * 3 % 3 = 0 by omega, show (n * 3 + 1) % 3 = 1 by omega, show (n * 3 + 1 + 1) % 3 = 2 by omega]
    rfl
abbrev rowE (o k v : Int) (r q : ByteArray) (h : Bool) (y m ok ow od c b : Int) : Array Value := #[.int .i64 o, .int .i64 k, .int .i64 v, .string r, .string q, .bool h, .int .i64 y, .int .i64 m, .int .i64 ok, .int .i64 ow, .int .i64 od, .int .i64 c, .int .i64 b]
abbrev rowW (o k v : Int) (r q : ByteArray) (h : Bool) (y m ok ow od c b : Int) (p : Option Addr) (n cap g : Nat) : Array Value := rowE o k v r q h y m ok ow od c b ++ #[Value.slice p n cap, Value.slice (some ⟨g, 0, none⟩) n n]
theorem cells_of {w : World} {b : Nat} {c : Array Value} {e : TypeId} {fr : Nat × Nat} (h : w.heap[b]? = some (.cells c e fr)) (i : Nat) : w.cell? ⟨b, i, none⟩ = c[i]? := by
  unfold World.cell?; rw [h]; rfl
theorem infoVl : (Tryz.prog.info? 32).map (fun i => (i.zero, i.size, i.bytes)) = some (some (.agg #[.int .i64 0, .int .i64 0, .string ⟨#[]⟩]), 3, 32) := by kernel_rfl
def FV (H n : Nat) (E : Array Value) (sl : Value) (Z : Array Value) : Nat → Value → World → Prop
  | 0, u, _ => u = .agg E
  | 1, u, _ => u = sl
  | 2, u, _ => u = sl
  | 3, u, _ => u = .int .i64 n
  | 4, u, w' => ∃ g, u = .slice (some ⟨g, 0, none⟩) n n ∧ H + 1 ≤ g ∧ w'.heap[g]? = some (.cells Z 32 (0, 0))
  | 5, u, w' => ∃ g, u = .agg (E ++ #[sl, .slice (some ⟨g, 0, none⟩) n n]) ∧ H + 1 ≤ g ∧ w'.heap[g]? = some (.cells Z 32 (0, 0))
  | 6, u, w' => ∃ g g2, u = .pointer (some ⟨g2, 0, none⟩) ∧ H + 1 ≤ g ∧ H + 1 ≤ g2 ∧ g ≠ g2 ∧ w'.heap[g]? = some (.cells Z 32 (0, 0)) ∧ w'.heap[g2]? = some (.cells (E ++ #[sl, .slice (some ⟨g, 0, none⟩) n n]) 62 (0, 0))
  | 7, u, w' => ∃ g g2, u = .pointer (some ⟨g2, 0, none⟩) ∧ H + 1 ≤ g ∧ H + 1 ≤ g2 ∧ g ≠ g2 ∧ w'.heap[g]? = some (.cells Z 32 (0, 0)) ∧ w'.heap[g2]? = some (.cells (E ++ #[sl, .slice (some ⟨g, 0, none⟩) n n]) 62 (0, 0))
  | _, _, _ => True
theorem FV_ext {H n : Nat} {E : Array Value} {sl : Value} {Z : Array Value} {w w' : World} (hb : Below w.heap.size w w') (j : Nat) (u : Value) (h : FV H n E sl Z j u w) : FV H n E sl Z j u w' := by
  unfold FV at *
  split at h
  · exact h
  · exact h
  · exact h
  · exact h
  · obtain ⟨g, h1, h2, h3⟩ := h; exact ⟨g, h1, h2, heap_ext h3 hb⟩
  · obtain ⟨g, h1, h2, h3⟩ := h; exact ⟨g, h1, h2, heap_ext h3 hb⟩
  · obtain ⟨g, g2, h1, h2, h3, h4, h5, h6⟩ := h; exact ⟨g, g2, h1, h2, h3, h4, heap_ext h5 hb, heap_ext h6 hb⟩
  · obtain ⟨g, g2, h1, h2, h3, h4, h5, h6⟩ := h; exact ⟨g, g2, h1, h2, h3, h4, heap_ext h5 hb, heap_ext h6 hb⟩
  · trivial
def JV (H : Nat) (E : Array Value) (w0 w' : World) : Prop := Below H w0 w' ∧ H + 1 ≤ w'.heap.size ∧ w'.heap[H]? = some (.cells E 30 (0, 0))
theorem JV.ext {H : Nat} {E : Array Value} {w0 w w' : World} (h : JV H E w0 w) (hb : Below w.heap.size w w') : JV H E w0 w' := ⟨h.1.trans (hb.mono (by have := h.2.1; omega)), Nat.le_trans h.2.1 hb.size, heap_ext h.2.2 hb⟩
theorem ba_iff (x y : ByteArray) : (x.toList == y.toList) = decide (x = y) := by
  have h : x.toList = y.toList ↔ x = y := by
    rw [ByteArray.toList_eq, ByteArray.toList_eq]
    constructor
    · intro h
      apply ByteArray.ext
      exact Array.toList_inj.1 h
    · rintro rfl; rfl
  by_cases e : x = y
  · subst e; simp
  · rw [decide_eq_false e]
    simpa using fun he => e (h.1 he)
theorem ba_eq {x y : ByteArray} (h : (x.toList == y.toList) = true) : x = y := by rw [ba_iff, decide_eq_true_eq] at h; exact h
theorem ba_ne {x y : ByteArray} (h : (x.toList == y.toList) = false) : x ≠ y := by rw [ba_iff, decide_eq_false_iff_not] at h; exact h
def cT (o : Int) (r : ByteArray) (nm : Nat → ByteArray) (ia : Nat → Nat → Int) (T : Nat → ByteArray) (k j : Nat) : List Value := if j < k ∧ nm j = r then [.int .i64 (wrap64 (o + ia j 9)), .int .i64 (ia j 9), .string (T j)] else zero3
theorem cT_len (o : Int) (r : ByteArray) (nm : Nat → ByteArray) (ia : Nat → Nat → Int) (T : Nat → ByteArray) (k j : Nat) : (cT o r nm ia T k j).length = 3 := by unfold cT; split <;> rfl
theorem cT_zero (o : Int) (r : ByteArray) (nm : Nat → ByteArray) (ia : Nat → Nat → Int) (T : Nat → ByteArray) : cT o r nm ia T 0 = fun _ => zero3 := by funext j; unfold cT; rw [if_neg (by omega)]
theorem cT_skip {o : Int} {r : ByteArray} {nm : Nat → ByteArray} {ia : Nat → Nat → Int} {T : Nat → ByteArray} {k : Nat} (h : nm k ≠ r) : cT o r nm ia T (k + 1) = cT o r nm ia T k := by
  funext j
  unfold cT
  by_cases hj : j = k
  · subst hj; rw [if_neg (fun x => h x.2), if_neg (fun x => h x.2)]
  · by_cases h1 : j < k
    · by_cases h2 : nm j = r
      · rw [if_pos ⟨by omega, h2⟩, if_pos ⟨h1, h2⟩]
      · rw [if_neg (fun x => h2 x.2), if_neg (fun x => h2 x.2)]
    · rw [if_neg (fun x => by omega), if_neg (fun x => h1 x.1)]
theorem cT_at {o : Int} {r : ByteArray} {nm : Nat → ByteArray} {ia : Nat → Nat → Int} {T : Nat → ByteArray} {k : Nat} (h : nm k = r) : cT o r nm ia T (k + 1) k = [.int .i64 (wrap64 (o + ia k 9)), .int .i64 (ia k 9), .string (T k)] := by
  unfold cT; rw [if_pos ⟨by omega, h⟩]
theorem cT_next {o : Int} {r : ByteArray} {nm : Nat → ByteArray} {ia : Nat → Nat → Int} {T : Nat → ByteArray} {k : Nat} {j : Nat} (hj : j ≠ k) : cT o r nm ia T (k + 1) j = cT o r nm ia T k j := by
  unfold cT
  by_cases h2 : nm j = r
  · by_cases h1 : j < k
    · rw [if_pos ⟨by omega, h2⟩, if_pos ⟨h1, h2⟩]
    · rw [if_neg (fun x => by omega), if_neg (fun x => h1 x.1)]
  · rw [if_neg (fun x => h2 x.2), if_neg (fun x => h2 x.2)]
def FW (I g g2 n k' : Nat) (o : Int) (a9 : Int) (l t : ByteArray) : Nat → Value → Prop
  | 0, u => u = .pointer (some ⟨g2, 0, none⟩)
  | 1, u => u = .pointer (some ⟨g2, 0, none⟩)
  | 2, u => u = .pointer (some ⟨g2, 14, none⟩)
  | 3, u => u = .slice (some ⟨g, 0, none⟩) n n
  | 4, u => u = .int .i64 k'
  | 5, u => u = .pointer (some ⟨g2, 0, none⟩)
  | 6, u => u = .pointer (some ⟨I, 9, none⟩)
  | 7, u => u = .int .i64 a9
  | 8, u => u = .pointer (some ⟨I, 10, none⟩)
  | 9, u => u = .string l
  | 10, u => u = .agg #[.int .i64 (wrap64 (o + a9)), .int .i64 a9, .string t]
  | 11, u => u = .pointer (some ⟨g, k' * 3, none⟩)
  | _, _ => True
def JW (H g g2 I : Nat) (E CW R : Array Value) (L : List Value) (w0 w' : World) : Prop := Below H w0 w' ∧ H + 1 ≤ w'.heap.size ∧ w'.heap[H]? = some (.cells E 30 (0, 0)) ∧ w'.heap[g]? = some (.cells L.toArray 32 (0, 0)) ∧ w'.heap[g2]? = some (.cells CW 62 (0, 0)) ∧ w'.heap[I]? = some (.cells R 41 (0, 0))
theorem JW.ext {H g g2 I : Nat} {E CW R : Array Value} {L : List Value} {w0 w w' : World} (h : JW H g g2 I E CW R L w0 w) (hb : Below w.heap.size w w') : JW H g g2 I E CW R L w0 w' := ⟨h.1.trans (hb.mono (by have := h.2.1; omega)), Nat.le_trans h.2.1 hb.size, heap_ext h.2.2.1 hb, heap_ext h.2.2.2.1 hb, heap_ext h.2.2.2.2.1 hb, heap_ext h.2.2.2.2.2 hb⟩
theorem infoVl2 : (Tryz.prog.info? 32).map (·.size) = some 3 := by kernel_rfl
set_option maxRecDepth 100000 in
set_option maxHeartbeats 4000000 in
theorem of_walk (H : Nat) (p : Option Addr) (n cap : Nat) (w : World) (hH : H = w.heap.size) (o k v : Int) (r q : ByteArray) (h : Bool) (y m ok ow od c b : Int) (nm : Nat → ByteArray) (ia : Nat → Nat → Int) (lt T : Nat → ByteArray) (b0 off : Nat) (hn : n ≤ 1000)
    (hp : ∀ j, j < n → p = some ⟨b0, off, none⟩ ∧ b0 < H ∧ CellsR w b0 (off + j * 11) (nm j) (ia j) (lt j))
    (hval : ∀ j, j < n → nm j = r → ∀ w' g, Below H w w' → w'.cell? ⟨g, 0, none⟩ = some (.int .i64 o) → w'.cell? ⟨g, 4, none⟩ = some (.string q) → Calls Tryz.prog 19 #[.pointer (some ⟨g, 0, none⟩), .int .i64 (ia j 9), .string (lt j)] w' fun e w'' => e = .returned (.agg #[.int .i64 (wrap64 (o + ia j 9)), .int .i64 (ia j 9), .string (T j)]) ∧ Below w'.heap.size w' w'') :
    Calls Tryz.prog 9 #[.slice p n cap, .agg (rowE o k v r q h y m ok ow od c b)] w fun e w' => ∃ g g2, e = .returned (.pointer (some ⟨g2, 0, none⟩)) ∧ Below H w w' ∧ H + 1 ≤ g ∧ H + 1 ≤ g2 ∧ g ≠ g2 ∧ w'.heap[g]? = some (.cells ((List.range n).flatMap (cT o r nm ia T n)).toArray 32 (0, 0)) ∧ w'.heap[g2]? = some (.cells (rowW o k v r q h y m ok ow od c b p n cap g) 62 (0, 0)) := by
  obtain ⟨iv, hi, hz0, hz1, hz2⟩ := info_parts infoVl
  have hmix : Tryz.prog.follows .mixedOrders = true := by kernel_rfl
  go_enter Tryz.func9, Tryz.ntmps9
  go_wp2
  have hin : Below w.heap.size w (w.alloc (Obj.cells (rowE o k v r q h y m ok ow od c b) 30)) := below_alloc _ _
  have hbox := heap_alloc_new w (Obj.cells (rowE o k v r q h y m ok ow od c b) 30)
  have hws : (w.alloc (Obj.cells (rowE o k v r q h y m ok ow od c b) 30)).heap.size = w.heap.size + 1 := by simp
  obtain ⟨wi, hwi⟩ : ∃ wi, wi = w.alloc (Obj.cells (rowE o k v r q h y m ok ow od c b) 30) := ⟨_, rfl⟩
  rw [← hwi] at hin hbox hws ⊢
  rw [← hH] at hin hbox hws ⊢
  clear hwi hH
  refine region_steps_last hmix (by kernel_rfl) (by kernel_rfl) [7] (by decide) (FV H n (rowE o k v r q h y m ok ow od c b) (.slice p n cap) (madeCells #[.int .i64 0, .int .i64 0, .string ⟨#[]⟩] (n * 3))) (JV H (rowE o k v r q h y m ok ow od c b) w) (JV H (rowE o k v r q h y m ok ow od c b) w) 7 (by decide) (by kernel_rfl) ⟨hin.drew, by show H + 1 ≤ wi.heap.size; omega, hbox⟩ ?_ ?_
  · refine ⟨?_, ?_, ?_, ?_, ?_, ?_, ?_, ?_, trivial⟩
    · intro a' w' hJ _ _ hf hd K hK
      simp [frameFacts, depFacts, Op.operands, FV, Slot] at hf hd
      have e := cells_of hJ.2.2
      have e0 := e 0; have e1 := e 1; have e2 := e 2; have e3 := e 3; have e4 := e 4; have e5 := e 5; have e6 := e 6; have e7 := e 7; have e8 := e 8; have e9 := e 9; have e10 := e 10; have e11 := e 11; have e12 := e 12
      clear e
      simp only [rowE, List.getElem?_toArray, List.getElem?_cons_zero, List.getElem?_cons_succ] at e0 e1 e2 e3 e4 e5 e6 e7 e8 e9 e10 e11 e12
      refine step_value rfl ?_ (hK (.agg (rowE o k v r q h y m ok ow od c b)) w' rfl hJ (fun _ _ _ _ h => h))
      go_simp
    · intro a' w' hJ _ _ hf hd K hK
      simp [frameFacts, depFacts, Op.operands, FV, Slot] at hf hd
      refine step_value rfl ?_ (hK (.slice p n cap) w' rfl hJ (fun _ _ _ _ h => h))
      go_simp
    · intro a' w' hJ _ _ hf hd K hK
      simp [frameFacts, depFacts, Op.operands, FV, Slot] at hf hd
      refine step_value rfl ?_ (hK (.slice p n cap) w' rfl hJ (fun _ _ _ _ h => h))
      go_simp
    · intro a' w' hJ _ _ hf hd K hK
      simp [frameFacts, depFacts, Op.operands, FV, Slot] at hf hd
      obtain ⟨h10, _⟩ := hd
      refine step_value rfl ?_ (hK (.int .i64 n) w' rfl hJ (fun _ _ _ _ h => h))
      go_simp
    · intro a' w' hJ _ _ hf hd K hK
      simp [frameFacts, depFacts, Op.operands, FV, Slot] at hf hd
      obtain ⟨h11, _⟩ := hd
      have hrun := run_make (P := Tryz.prog) w' 60 32 iv _ Tryz.underlying60 hi hz0 .i64 .i64 (n : Int) (n : Int) (by omega) (Int.le_refl _) (by rw [hz2]; omega) (by omega)
      rw [hz1, Int.toNat_natCast] at hrun
      have hrun : (Instr.makeSlice 60 (.int .i64 (n : Int)) (.int .i64 (n : Int))).run Tryz.prog w' = .ok (.slice (some ⟨w'.heap.size, 0, none⟩) n n) (w'.alloc (.cells (madeCells #[.int .i64 0, .int .i64 0, .string ⟨#[]⟩] (n * 3)) 32)) := hrun
      refine step_value rfl ?_ (hK (.slice (some ⟨w'.heap.size, 0, none⟩) n n) (w'.alloc (.cells (madeCells #[.int .i64 0, .int .i64 0, .string ⟨#[]⟩] (n * 3)) 32)) ⟨_, rfl, hJ.2.1, heap_alloc_new w' _⟩ (JV.ext hJ (below_alloc _ _)) (fun j u _ _ h => FV_ext (below_alloc _ _) j u h))
      simp [execOp, Act.eval, h11, hrun, Result.andThen]
    · intro a' w' hJ _ _ hf hd K hK
      simp [frameFacts, depFacts, Op.operands, FV, Slot] at hf hd
      obtain ⟨⟨h8, _⟩, ⟨h9, _⟩, u, ⟨h12, _⟩, g, rfl, hg1, hg2⟩ := hd
      refine step_value rfl ?_ (hK (.agg (rowW o k v r q h y m ok ow od c b p n cap g)) w' ⟨g, rfl, hg1, hg2⟩ hJ (fun _ _ _ _ h => h))
      go_simp
    · intro a' w' hJ _ _ hf hd K hK
      simp [frameFacts, depFacts, Op.operands, FV, Slot] at hf hd
      obtain ⟨u, ⟨h13, _⟩, g, rfl, hg1, hg2⟩ := hd
      refine step_value rfl ?_ (hK (.pointer (some ⟨w'.heap.size, 0, none⟩)) (w'.alloc (.cells (rowW o k v r q h y m ok ow od c b p n cap g) 62)) ⟨g, _, rfl, hg1, hJ.2.1, ?_, heap_ext hg2 (below_alloc _ _), heap_alloc_new w' _⟩ (JV.ext hJ (below_alloc _ _)) (fun j u _ _ h => FV_ext (below_alloc _ _) j u h))
      · go_simp
      · have := (Array.getElem?_eq_some_iff.1 hg2).1; omega
    · intro a' w' hJ _ _ hf hd K hK
      simp [frameFacts, depFacts, Op.operands, FV, Slot] at hf hd
      obtain ⟨u, ⟨h14, _⟩, g, g2, rfl, k1, k2, k3, k4, k5⟩ := hd
      refine step_value rfl ?_ (hK (.pointer (some ⟨g2, 0, none⟩)) w' ⟨g, g2, rfl, k1, k2, k3, k4, k5⟩ hJ (fun _ _ _ _ h => h))
      go_simp
  · intro val w5 hJ hfin
    simp [factsFrom, FV] at hfin
    obtain ⟨g, g2, hv, k1, k2, k3, k4, k5⟩ := hfin
    simp [putSel, Act.put, hv]
    rw [← Array.toArray_toList (xs := madeCells #[.int .i64 0, .int .i64 0, .string ⟨#[]⟩] (n * 3)), made3, ← cT_zero o r nm ia T] at k4
    obtain ⟨q1, q2, q3⟩ := hJ
    clear hin hbox hws hi hz0 hz1 hz2 iv
    go_wp2
    go_loopw [17] (fun i wr => ∃ k' : Nat, k' ≤ n ∧ i = .int .i64 k' ∧ Below H w wr ∧ H + 1 ≤ wr.heap.size ∧ wr.heap[H]? = some (.cells (rowE o k v r q h y m ok ow od c b) 30 (0, 0)) ∧ wr.heap[g]? = some (.cells ((List.range n).flatMap (cT o r nm ia T k')).toArray 32 (0, 0)) ∧ wr.heap[g2]? = some (.cells (rowW o k v r q h y m ok ow od c b p n cap g) 62 (0, 0)))
      (fun i _ => n - (intOf i).toNat)
    case atStart => exact ⟨0, by omega, rfl, q1, q2, q3, k4, k5⟩
    case round =>
      obtain ⟨k', hk', rfl, hB, hsz, hH, hG, hG2⟩ := hrel
      by_cases hlt : k' < n
      · obtain ⟨hpp, hb0, hcc⟩ := hp k' hlt
        subst hpp
        have hcc := hcc.below hB hb0
        obtain ⟨c0, c1, c2, c3, c4, c5, c6, c7, c8, c9, c10⟩ := hcc
        have e3 : (wr.alloc (Obj.cells (rowR (nm k') (ia k') (lt k')) 41)).cell? ⟨H, 3, none⟩ = some (.string r) := ((below_alloc wr _).cell (show H < wr.heap.size by omega)).trans (cells_of hH 3)
        have hv := hval k' hlt
        have hRR := heap_alloc_new wr (Obj.cells (rowR (nm k') (ia k') (lt k')) 41)
        have hin := below_alloc wr (Obj.cells (rowR (nm k') (ia k') (lt k')) 41)
        have hJ0 : JW H g g2 wr.heap.size (rowE o k v r q h y m ok ow od c b) (rowW o k v r q h y m ok ow od c b (some ⟨b0, off, none⟩) n cap g) (rowR (nm k') (ia k') (lt k')) ((List.range n).flatMap (cT o r nm ia T k')) w (wr.alloc (Obj.cells (rowR (nm k') (ia k') (lt k')) 41)) := ⟨hB.trans (hin.mono (by omega)), by simp; omega, heap_ext hH hin, heap_ext hG hin, heap_ext hG2 hin, hRR⟩
        obtain ⟨I, hI⟩ : ∃ I, I = wr.heap.size := ⟨_, rfl⟩
        have hIg : I ≠ g := by have := (Array.getElem?_eq_some_iff.1 hG).1; omega
        clear hp hval hB hsz hH hG hG2
        rw [← hI] at hJ0
        go_wp2
        · rename_i hnm
          have hnm := ba_eq hnm
          have hv := hv hnm
          obtain ⟨wi, hwi⟩ : ∃ wi, wi = wr.alloc (Obj.cells (rowR (nm k') (ia k') (lt k')) 41) := ⟨_, rfl⟩
          rw [← hwi] at hJ0 ⊢
          rw [← hI]
          clear hwi hI hRR hin e3 c0 c1 c2 c3 c4 c5 c6 c7 c8 c9 c10
          refine region_steps_last hmix (by kernel_rfl) (by kernel_rfl) [] (by decide) (fun j u _ => FW I g g2 n k' o (ia k' 9) (lt k') (T k') j u) (JW H g g2 I (rowE o k v r q h y m ok ow od c b) (rowW o k v r q h y m ok ow od c b (some ⟨b0, off, none⟩) n cap g) (rowR (nm k') (ia k') (lt k')) ((List.range n).flatMap (cT o r nm ia T k')) w) (JW H g g2 I (rowE o k v r q h y m ok ow od c b) (rowW o k v r q h y m ok ow od c b (some ⟨b0, off, none⟩) n cap g) (rowR (nm k') (ia k') (lt k')) ((List.range n).flatMap (cT o r nm ia T (k' + 1))) w) 12 (by decide) (by kernel_rfl) ⟨hJ0.1.drew, hJ0.2.1, hJ0.2.2.1, hJ0.2.2.2.1, hJ0.2.2.2.2.1, hJ0.2.2.2.2.2⟩ ?_ ?_
          · refine ⟨?_, ?_, ?_, ?_, ?_, ?_, ?_, ?_, ?_, ?_, ?_, ?_, ?_, trivial⟩
            · intro a' w' hJ _ _ hf hd K hK
              simp [frameFacts, depFacts, Op.operands, FW, Slot] at hf hd
              refine step_value rfl ?_ (hK (.pointer (some ⟨g2, 0, none⟩)) w' rfl hJ (fun _ _ _ _ h => h))
              go_simp
            · intro a' w' hJ _ _ hf hd K hK
              simp [frameFacts, depFacts, Op.operands, FW, Slot] at hf hd
              obtain ⟨h27, _⟩ := hd
              refine step_value rfl ?_ (hK (.pointer (some ⟨g2, 0, none⟩)) w' rfl hJ (fun _ _ _ _ h => h))
              go_simp
            · intro a' w' hJ _ _ hf hd K hK
              simp [frameFacts, depFacts, Op.operands, FW, Slot] at hf hd
              obtain ⟨h28, _⟩ := hd
              refine step_value rfl ?_ (hK (.pointer (some ⟨g2, 14, none⟩)) w' rfl hJ (fun _ _ _ _ h => h))
              go_simp
            · intro a' w' hJ _ _ hf hd K hK
              simp [frameFacts, depFacts, Op.operands, FW, Slot] at hf hd
              obtain ⟨h29, _⟩ := hd
              have e14 : w'.cell? ⟨g2, 14, none⟩ = some (.slice (some ⟨g, 0, none⟩) n n) := cells_of hJ.2.2.2.2.1 14
              refine step_value rfl ?_ (hK (.slice (some ⟨g, 0, none⟩) n n) w' rfl hJ (fun _ _ _ _ h => h))
              go_simp
            · intro a' w' hJ _ _ hf hd K hK
              simp [frameFacts, depFacts, Op.operands, FW, Slot] at hf hd
              refine step_value rfl ?_ (hK (.int .i64 k') w' rfl hJ (fun _ _ _ _ h => h))
              go_simp
            · intro a' w' hJ _ _ hf hd K hK
              simp [frameFacts, depFacts, Op.operands, FW, Slot] at hf hd
              refine step_value rfl ?_ (hK (.pointer (some ⟨g2, 0, none⟩)) w' rfl hJ (fun _ _ _ _ h => h))
              go_simp
            · intro a' w' hJ _ _ hf hd K hK
              simp [frameFacts, depFacts, Op.operands, FW, Slot] at hf hd
              refine step_value rfl ?_ (hK (.pointer (some ⟨I, 9, none⟩)) w' rfl hJ (fun _ _ _ _ h => h))
              go_simp
            · intro a' w' hJ _ _ hf hd K hK
              simp [frameFacts, depFacts, Op.operands, FW, Slot] at hf hd
              obtain ⟨h33, _⟩ := hd
              have e9 : w'.cell? ⟨I, 9, none⟩ = some (.int .i64 (ia k' 9)) := cells_of hJ.2.2.2.2.2 9
              refine step_value rfl ?_ (hK (.int .i64 (ia k' 9)) w' rfl hJ (fun _ _ _ _ h => h))
              go_simp
            · intro a' w' hJ _ _ hf hd K hK
              simp [frameFacts, depFacts, Op.operands, FW, Slot] at hf hd
              refine step_value rfl ?_ (hK (.pointer (some ⟨I, 10, none⟩)) w' rfl hJ (fun _ _ _ _ h => h))
              go_simp
            · intro a' w' hJ _ _ hf hd K hK
              simp [frameFacts, depFacts, Op.operands, FW, Slot] at hf hd
              obtain ⟨h35, _⟩ := hd
              have e10 : w'.cell? ⟨I, 10, none⟩ = some (.string (lt k')) := cells_of hJ.2.2.2.2.2 10
              refine step_value rfl ?_ (hK (.string (lt k')) w' rfl hJ (fun _ _ _ _ h => h))
              go_simp
            · intro a' w' hJ _ _ hf hd K hK
              simp [frameFacts, depFacts, Op.operands, FW, Slot] at hf hd
              obtain ⟨⟨h32, _⟩, ⟨h34, _⟩, ⟨h36, _⟩⟩ := hd
              refine step_call (f := 19) (args := #[.pointer (some ⟨g2, 0, none⟩), .int .i64 (ia k' 9), .string (lt k')]) rfl (by go_simp) ((hv w' g2 hJ.1 (cells_of hJ.2.2.2.2.1 0) (cells_of hJ.2.2.2.2.1 4)).mono ?_)
              rintro e w'' ⟨rfl, hB2⟩
              exact ⟨_, rfl, hK _ w'' rfl (JW.ext hJ hB2) (fun _ _ _ _ h => h)⟩
            · intro a' w' hJ _ _ hf hd K hK
              simp [frameFacts, depFacts, Op.operands, FW, Slot] at hf hd
              obtain ⟨⟨h30, _⟩, ⟨h31, _⟩⟩ := hd
              have hlt' : (k' : Int) < (n : Int) := by omega
              refine step_value rfl ?_ (hK (.pointer (some ⟨g, k' * 3, none⟩)) w' rfl hJ (fun _ _ _ _ h => h))
              go_simp
            · intro a' w' hJ _ _ hf hd K hK
              simp [frameFacts, depFacts, Op.operands, FW, Slot] at hf hd
              obtain ⟨⟨h38, _⟩, ⟨h37, _⟩⟩ := hd
              obtain ⟨j1, j2, j3, j4, j5, j6⟩ := hJ
              have hll : ((List.range n).flatMap (cT o r nm ia T k')).length = n * 3 := by rw [len3 _ (cT_len o r nm ia T k') id, List.length_range]
              have hst := run_storeCells_at (P := Tryz.prog) g (k' * 3) 32 [.int .i64 (wrap64 (o + ia k' 9)), .int .i64 (ia k' 9), .string (T k')] 0 ((List.range n).flatMap (cT o r nm ia T k')).toArray w' j4 (by simp only [List.size_toArray, hll, List.length_cons, List.length_nil]; omega) (by intro u hu; simp at hu; rcases hu with rfl | rfl | rfl <;> rfl)
              simp only [Nat.add_zero, List.length_cons, List.length_nil, Nat.zero_add] at hst
              obtain ⟨ii, hii, hin⟩ := Option.map_eq_some_iff.1 infoVl2
              have hrun : (Instr.storeAt 32 (.pointer (some ⟨g, k' * 3, none⟩)) (.agg #[.int .i64 (wrap64 (o + ia k' 9)), .int .i64 (ia k' 9), .string (T k')])).run Tryz.prog w' = .ok () (w'.setRow g ((List.range n).flatMap (cT o r nm ia T (k' + 1))).toArray) := by
                simp [Instr.storeAt, Instr.sureAddr, storeVar, Go.sizeOf, typeInfo, hii, hin, Value.cells] at hst ⊢
                rw [hst]
                have h3 := set3 (C := cT o r nm ia T k') (C' := cT o r nm ia T (k' + 1)) (cT_len o r nm ia T k') hlt (fun j hj => cT_next hj)
                rw [cT_at hnm] at h3
                rw [← h3]
                simp only [List.append_assoc, List.cons_append, List.nil_append]
              refine step_law rfl ?_
              unfold Oper.wp
              simp [execOp, Act.eval, h38, h37, hrun, Result.andThen]
              have hnH : H ≠ g := by omega
              refine hK undef _ trivial (show JW _ _ _ _ _ _ _ _ _ _ from ⟨j1.trans ⟨rfl, rfl, rfl, by simp [World.setRow], fun k hk => setRow_other w' g k _ (by omega)⟩, by simp [World.setRow]; omega, (setRow_other w' g H _ hnH).trans j3, setRow_heap w' g _ _ _ _ j4, (setRow_other w' g g2 _ (fun e => k3 e.symm)).trans j5, (setRow_other w' g I _ hIg).trans j6⟩) (fun _ _ _ _ h => h)
          · intro val w5 hJ hfin
            simp [putSel, Act.put]
            go_wp2
            exact ⟨⟨k' + 1, by omega, by go_num, hJ.1, hJ.2.1, hJ.2.2.1, hJ.2.2.2.1, hJ.2.2.2.2.1⟩, by simp [intOf]; omega⟩
        · rename_i hnm
          refine ⟨⟨k' + 1, by omega, by go_num, hJ0.1, hJ0.2.1, hJ0.2.2.1, ?_, hJ0.2.2.2.2.1⟩, by simp [intOf]; omega⟩
          rw [cT_skip (ba_ne hnm)]
          exact hJ0.2.2.2.1
      · obtain rfl : k' = n := by omega
        go_wp2
        go_ret
        exact ⟨g, g2, rfl, hB, k1, k2, k3, hG, hG2⟩
end Go.Proofs.YtheojhajckcdlaaGreatDoor

namespace Nt.Ev.YtheojhajckcdlaaGreatDoor.Fo
set_option maxRecDepth 100000
open Go Go.RowKit Nt Nt.Num Go.Proofs.YtheojhajckcdlaaGreatDoor Nt.Ev.YtheojhajckcdlaaGreatDoor Nt.Civil Nt.Ev.YtheojhajckcdlaaGreatDoor.Rl Nt.Ev.YtheojhajckcdlaaGreatDoor.Oc Nt.Ev.YtheojhajckcdlaaGreatDoor.Un Nt.Ev.YtheojhajckcdlaaGreatDoor.On Nt.Ev.YtheojhajckcdlaaGreatDoor.Cn
variable [MLen]
theorem iadd_w (a b : Int) : iadd .i64 a b = wrap64 (a + b) := by unfold iadd wrap64; exact IntKind.wrap_i64 _
theorem nm_iff (xs : List V) (i : Nat) (r : List UInt8) : seq (asStr (acell (lget xs i) 0)) r = decide (nmX xs i = (⟨r.toArray⟩ : ByteArray)) := by
  unfold nmX
  rw [← seq_toList, ba_iff]
def tX (xs : List V) (q : List UInt8) (o : Int) (j : Nat) : ByteArray := ⟨(abT q (iadd .i64 o (iaX xs j 9)) (iaX xs j 9) (asStr (acell (lget xs j) 10))).toArray⟩
theorem va_len (xs : List V) (r : List UInt8) (o : Int) (q : List UInt8) : (vaL xs r o q).length = xs.length := by unfold vaL; rw [List.length_map]
theorem va_rep (G : Known) (xs : List V) (r : List UInt8) (o : Int) (q : List UInt8) : repE G [.int .i64, .int .i64, .str] (vaL xs r o q) ((List.range xs.length).flatMap (cT o ⟨r.toArray⟩ (nmX xs) (iaX xs) (tX xs q o) xs.length)) := by
  refine repE_of _ _ fun i x hx => ?_
  unfold vaL at hx
  rw [List.getElem?_map] at hx
  obtain ⟨e, he, rfl⟩ := Option.map_eq_some_iff.1 hx
  have hi := (List.getElem?_eq_some_iff.1 he).1
  have hl : lget xs i = e := by
    unfold lget
    rw [List.getD_eq_getElem?_getD, Int.toNat_natCast, he]; rfl
  have hc : (((List.range xs.length).flatMap (cT o ⟨r.toArray⟩ (nmX xs) (iaX xs) (tX xs q o) xs.length)).drop (i * 3)).take 3 = cT o ⟨r.toArray⟩ (nmX xs) (iaX xs) (tX xs q o) xs.length i := take3 (cT_len o _ _ _ _ _) hi
  have hk := nm_iff xs i r
  rw [hl] at hk
  unfold vaE
  cases hs : seq (asStr (acell e 0)) r with
  | true =>
    rw [hs] at hk
    have hk := of_decide_eq_true hk.symm
    refine ⟨rfl, .agg (cT o ⟨r.toArray⟩ (nmX xs) (iaX xs) (tX xs q o) xs.length i).toArray, ?_, ?_⟩
    · unfold cT
      rw [if_pos ⟨hi, hk⟩]
      unfold sel rep
      refine ⟨_, rfl, ?_⟩
      simp only [repL, rep]
      refine ⟨_, _, rfl, ?_, _, _, rfl, ?_, _, _, rfl, ?_, rfl⟩
      · rw [iadd_w]; unfold iaX; rw [hl]
      · unfold iaX; rw [hl]
      · unfold tX iaX; rw [hl]
    · exact hc.trans (by simp [Value.cells])
  | false =>
    rw [hs] at hk
    have hk : ¬ nmX xs i = (⟨r.toArray⟩ : ByteArray) := of_decide_eq_false hk.symm
    refine ⟨rfl, .agg (cT o ⟨r.toArray⟩ (nmX xs) (iaX xs) (tX xs q o) xs.length i).toArray, ?_, ?_⟩
    · unfold cT
      rw [if_neg (fun x => hk x.2)]
      unfold sel rep
      refine ⟨_, rfl, ?_⟩
      simp only [repL, rep]
      exact ⟨_, _, rfl, rfl, _, _, rfl, rfl, _, _, rfl, rfl, rfl⟩
    · exact hc.trans (by simp [Value.cells])
theorem abbr_calls {G : Known} {w : World} (hG : GOk G w) (hg : GlobOk jE G) (s : List UInt8) (a c : Int) (l : List UInt8) (h1 : ile (slen s) 900 = true) (h2 : ile (slen l) 900 = true) : Calls Go.Proofs.Tryz.prog 35 #[.string ⟨s.toArray⟩, .int .i64 a, .int .i64 c, .string ⟨l.toArray⟩] w fun e w' => e = .returned (.tuple #[.string ⟨(abT s a c l).toArray⟩, .int .i64 (abW s a c l)]) ∧ Below w.heap.size w w' := by
  refine (fAbS_ok s a c l (by rw [h1, h2]; rfl) G w [.string ⟨s.toArray⟩, .int .i64 a, .int .i64 c, .string ⟨l.toArray⟩] hG hg (.cons (by unfold rep; rfl) (.cons (by unfold rep; rfl) (.cons (by unfold rep; rfl) (.cons (by unfold rep; rfl) .nil))))).mono ?_
  rintro e w' ⟨u, G', rfl, hn, hr⟩
  refine ⟨?_, hn.1⟩
  obtain ⟨a', rfl, hp, _⟩ := hr
  obtain ⟨x, t, rfl, hx, hp⟩ := PW.cons_inv hp
  obtain ⟨y, t, rfl, hy, hp⟩ := PW.cons_inv hp
  have := hp.nil_iff
  subst this
  simp only [sres] at hx hy
  unfold rep at hx hy
  rw [hx, hy]
theorem fOfS_ok (e : Nat) (o1 : Option Nat) (xs : List V) (o k v : Int) (r q : List UInt8) (h : Bool) (y m ok ow od c b : Int) (hc : band (rsOk xs) (ile (slen q) 900) = true) : Contract jE 9 [.sl e [.str, .int .i64, .int .i64, .int .i64, .int .i64, .int .i64, .int .i64, .int .i64, .int .i64, .int .i64, .str] o1 xs, .agg [.int .i64 o, .int .i64 k, .int .i64 v, .str r, .str q, .bool h, .int .i64 y, .int .i64 m, .int .i64 ok, .int .i64 ow, .int .i64 od, .int .i64 c, .int .i64 b]] (.rptr [.int .i64, .int .i64, .int .i64, .str, .str, .bool, .int .i64, .int .i64, .int .i64, .int .i64, .int .i64, .int .i64, .int .i64, .sl 41 [.str, .int .i64, .int .i64, .int .i64, .int .i64, .int .i64, .int .i64, .int .i64, .int .i64, .int .i64, .str], .sl 32 [.int .i64, .int .i64, .str]] (.agg [.int .i64 o, .int .i64 k, .int .i64 v, .str r, .str q, .bool h, .int .i64 y, .int .i64 m, .int .i64 ok, .int .i64 ow, .int .i64 od, .int .i64 c, .int .i64 b, .sl 41 [.str, .int .i64, .int .i64, .int .i64, .int .i64, .int .i64, .int .i64, .int .i64, .int .i64, .int .i64, .str] none xs, .sl 32 [.int .i64, .int .i64, .str] none (vaL xs r o q)]) 0) := by
  obtain ⟨h1, h2⟩ := b2 hc
  obtain ⟨hall, hn⟩ := rs_all h1
  intro G w vs hG hg hp
  obtain ⟨x1, t, rfl, hx1, hp⟩ := PW.cons_inv hp
  obtain ⟨x2, t, rfl, hx2, hp⟩ := PW.cons_inv hp
  have := hp.nil_iff
  subst this
  have hsl := hx1
  obtain ⟨p, cap, rfl, hcap, hcs⟩ := rules_cells hG hx1
  have hx2' : x2 = .agg (rowE o k v ⟨r.toArray⟩ ⟨q.toArray⟩ h y m ok ow od c b) := by
    unfold rep at hx2
    obtain ⟨a, rfl, hu⟩ := hx2
    simp only [repL, rep] at hu
    obtain ⟨_, _, rfl, rfl, hu⟩ := hu
    obtain ⟨_, _, rfl, rfl, hu⟩ := hu
    obtain ⟨_, _, rfl, rfl, hu⟩ := hu
    obtain ⟨_, _, rfl, rfl, hu⟩ := hu
    obtain ⟨_, _, rfl, rfl, hu⟩ := hu
    obtain ⟨_, _, rfl, rfl, hu⟩ := hu
    obtain ⟨_, _, rfl, rfl, hu⟩ := hu
    obtain ⟨_, _, rfl, rfl, hu⟩ := hu
    obtain ⟨_, _, rfl, rfl, hu⟩ := hu
    obtain ⟨_, _, rfl, rfl, hu⟩ := hu
    obtain ⟨_, _, rfl, rfl, hu⟩ := hu
    obtain ⟨_, _, rfl, rfl, hu⟩ := hu
    obtain ⟨_, _, rfl, rfl, rfl⟩ := hu
    rfl
  subst hx2'
  obtain ⟨b0, off, hcc⟩ : ∃ b0 off, ∀ j, j < xs.length → p = some ⟨b0, off, none⟩ ∧ b0 < w.heap.size ∧ CellsR w b0 (off + j * 11) (nmX xs j) (iaX xs j) (ltX xs j) := by
    rcases hcs with rfl | ⟨b0, off, hpp, hb0, hc⟩
    · exact ⟨0, 0, fun j hj => by simp at hj⟩
    · exact ⟨b0, off, fun j hj => ⟨hpp, hb0, hc j hj⟩⟩
  have hlt : ∀ j, j < xs.length → ile (slen (asStr (acell (lget xs j) 10))) 900 = true := by
    intro j hj
    refine hall (lget xs j) ?_
    unfold lget
    rw [List.getD_eq_getElem?_getD, Int.toNat_natCast, List.getElem?_eq_getElem hj]
    exact List.getElem_mem _
  refine (of_walk w.heap.size p xs.length cap w rfl o k v ⟨r.toArray⟩ ⟨q.toArray⟩ h y m ok ow od c b (nmX xs) (iaX xs) (ltX xs) (tX xs q o) b0 off hn hcc ?_).mono ?_
  · intro j hj _ w' g hB h0 h4
    refine value_walk g w' o (iaX xs j 9) (abW q (iadd .i64 o (iaX xs j 9)) (iaX xs j 9) (asStr (acell (lget xs j) 10))) _ _ _ h0 h4 fun w'' hB2 => ?_
    have hG2 := gok_bel hG (hB.trans (hB2.mono hB.size))
    have := abbr_calls hG2 hg q (iadd .i64 o (iaX xs j 9)) (iaX xs j 9) (asStr (acell (lget xs j) 10)) h2 (hlt j hj)
    rw [iadd_w] at this
    unfold tX ltX
    rw [iadd_w]
    exact this
  · rintro e w' ⟨g, g2, rfl, hB, k1, k2, k3, k4, k5⟩
    have hgok : GOk (upd (upd G g ((List.range xs.length).flatMap (cT o ⟨r.toArray⟩ (nmX xs) (iaX xs) (tX xs q o) xs.length))) g2 (rowW o k v ⟨r.toArray⟩ ⟨q.toArray⟩ h y m ok ow od c b p xs.length cap g).toList) w' :=
      gok_upd (gok_upd (gok_bel hG hB) k4 (by rw [List.take_of_length_le (by simp)])) k5 (by rw [List.take_of_length_le (by simp)])
    have hold : ∀ b', b' < w.heap.size → upd (upd G g ((List.range xs.length).flatMap (cT o ⟨r.toArray⟩ (nmX xs) (iaX xs) (tX xs q o) xs.length))) g2 (rowW o k v ⟨r.toArray⟩ ⟨q.toArray⟩ h y m ok ow od c b p xs.length cap g).toList b' = G b' := fun b' hb' => by
      unfold upd
      rw [if_neg (by omega), if_neg (by omega)]
    refine ⟨_, _, rfl, ⟨hB, hold, hgok⟩, ?_⟩
    show rep _ (V.rptr _ _ _) _
    unfold rep
    refine ⟨g2, 0, _, rfl, upd_same _ _ _, rfl, .agg (rowW o k v ⟨r.toArray⟩ ⟨q.toArray⟩ h y m ok ow od c b p xs.length cap g), ?_, rfl⟩
    have hm : More G (upd (upd G g ((List.range xs.length).flatMap (cT o ⟨r.toArray⟩ (nmX xs) (iaX xs) (tX xs q o) xs.length))) g2 (rowW o k v ⟨r.toArray⟩ ⟨q.toArray⟩ h y m ok ow od c b p xs.length cap g).toList) := fun b' l hl => ⟨l, (hold b' (known_lt hG hl)).trans hl, List.prefix_refl _⟩
    have hs1 := rep_more hm _ _ (sl_any (e' := 41) (o' := none) hsl)
    have hs2 : rep (upd (upd G g ((List.range xs.length).flatMap (cT o ⟨r.toArray⟩ (nmX xs) (iaX xs) (tX xs q o) xs.length))) g2 (rowW o k v ⟨r.toArray⟩ ⟨q.toArray⟩ h y m ok ow od c b p xs.length cap g).toList) (.sl 32 [.int .i64, .int .i64, .str] none (vaL xs r o q)) (.slice (some ⟨g, 0, none⟩) xs.length xs.length) := by
      unfold rep
      refine ⟨_, xs.length, by rw [va_len], by rw [va_len]; exact Nat.le_refl _, .inr ⟨g, 0, (List.range xs.length).flatMap (cT o ⟨r.toArray⟩ (nmX xs) (iaX xs) (tX xs q o) xs.length), rfl, ?_, ?_⟩⟩
      · unfold upd
        rw [if_neg k3, if_pos rfl]
      · rw [List.drop_zero]
        exact va_rep _ xs r o q
    unfold rep
    refine ⟨(rowW o k v ⟨r.toArray⟩ ⟨q.toArray⟩ h y m ok ow od c b p xs.length cap g).toList, by simp, ?_⟩
    refine (repL_iff _ _).2 ?_
    exact .cons (by unfold rep; rfl) (.cons (by unfold rep; rfl) (.cons (by unfold rep; rfl) (.cons (by unfold rep; rfl) (.cons (by unfold rep; rfl) (.cons (by unfold rep; rfl) (.cons (by unfold rep; rfl) (.cons (by unfold rep; rfl) (.cons (by unfold rep; rfl) (.cons (by unfold rep; rfl) (.cons (by unfold rep; rfl) (.cons (by unfold rep; rfl) (.cons (by unfold rep; rfl) (.cons hs1 (.cons hs2 .nil))))))))))))))
theorem fNxS_ok (e : Nat) (o1 : Option Nat) (xs : List V) (s : List UInt8) (x y z : Int) (hc : rsOk xs = true) : Contract jE 17 [.sl e [.str, .int .i64, .int .i64, .int .i64, .int .i64, .int .i64, .int .i64, .int .i64, .int .i64, .int .i64, .str] o1 xs, .str s, .agg [.int .i64 x, .int .i64 y, .int .i64 z]] (.tup [.agg [.int .i64 (nxR xs s x z), .int .i64 (nxY xs s x z), .int .i64 (nxN xs s x z)], .bool (nxB xs s x z)]) := by
  obtain ⟨h1, h2⟩ := rs_all hc
  exact lift1j (t := 41) (toJ (next_ev xs s x y z h1 (by omega)))
theorem foS2_ok : SOk jE foS2 := by
  unfold foS2
  refine SOk.cons (fun args r h => ?_) (SOk.cons (fun args r h => ?_) (SOk.cons (fun args r h => ?_) (SOk.cons (fun args r h => ?_) (SOk.cons (fun args r h => ?_) (foS1_ok)))))
  · unfold fAtS at h
    split at h
    · simp only [Option.some.injEq, Prod.mk.injEq] at h
      obtain ⟨hc, rfl⟩ := h
      exact fAtS_ok _ _ _ _ _ _ _ _ _ _ _ _ _ _ _ _ _ _ _ _ _ hc
    · cases h
  · unfold fInS at h
    split at h
    · simp only [Option.some.injEq, Prod.mk.injEq] at h
      obtain ⟨hc, rfl⟩ := h
      exact fInS_ok _ _ _ _ _ _ _ _ _ _ _ _ _ _ _ _ _ _ _ _ _ _ _ _ hc
    · cases h
  · unfold fOfS at h
    split at h
    · simp only [Option.some.injEq, Prod.mk.injEq] at h
      obtain ⟨hc, rfl⟩ := h
      exact fOfS_ok _ _ _ _ _ _ _ _ _ _ _ _ _ _ _ _ hc
    · cases h
  · unfold fOtS at h
    split at h
    · simp only [Option.some.injEq, Prod.mk.injEq] at h
      obtain ⟨hc, rfl⟩ := h
      exact fOtS_ok _ _ _ _ _ _ _ _ _ _ _ _ _ _ _ _ _ _ _ _ _ _ _ hc
    · cases h
  · unfold fNxS at h
    split at h
    · simp only [Option.some.injEq, Prod.mk.injEq] at h
      obtain ⟨hc, rfl⟩ := h
      exact fNxS_ok _ _ _ _ _ _ _ hc
    · cases h
end Nt.Ev.YtheojhajckcdlaaGreatDoor.Fo
