/-
  The evaluator is right: what it answers of a function's code, the model does.
-/
import Derived.Test.YtnchnnbggfeknaaDoorEvRun5
set_option linter.unusedVariables false
set_option linter.unusedSimpArgs false
namespace Nt.Ev
open Go Go.RowKit
section
variable {E : Env} {B : Nat} {G0 : Known} {w0 : World}

theorem drawOk_spec {n : Nat} {ops : List Oper} (h : drawOk n ops = true) : ∀ (i : Nat) o, ops[i]? = some o → (∃ d, o.dst = some d ∧ d < n) ∧ (∀ (j : Nat) o', ops[j]? = some o' → i ≠ j → o.dst ≠ o'.dst) ∧ (∀ e ∈ o.after.toList, Region.binds .any e = true → e.on < i) ∧
    (∀ t ∈ readsO o, ∀ (j : Nat) o', ops[j]? = some o' → o'.dst = some t → j < i ∧ ∃ e ∈ o.after.toList, Region.binds .any e = true ∧ e.on = j) ∧ (∀ j want, o.guard = some (j, want) → j < i ∧ ∃ e ∈ o.after.toList, Region.binds .any e = true ∧ e.on = j) := by
  intro i o ho
  unfold drawOk at h
  simp only at h
  have h := zip_all h i o ho
  simp only [Bool.and_eq_true] at h
  obtain ⟨⟨⟨⟨h1, h2⟩, h3⟩, h4⟩, h5⟩ := h
  refine ⟨?_, fun j o' hj hne => ?_, fun e he hb => ?_, fun t ht j o' hj hd => ?_, fun j want hg => ?_⟩
  · split at h1
    · rename_i d hd; exact ⟨d, hd, by simpa [Nat.blt_eq] using h1⟩
    · cases h1
  · have := zip_all h2 j o' hj
    simp only [Bool.or_eq_true, beq_iff_eq, bne_iff_ne, ne_eq] at this
    exact this.resolve_left hne
  · rw [List.all_eq_true] at h3
    have := h3 e he
    rw [hb] at this
    simpa [Nat.blt_eq] using this
  · rw [List.all_eq_true] at h4
    have := zip_all (h4 t ht) j o' hj
    simp only [Bool.or_eq_true, bne_iff_ne, ne_eq, Bool.and_eq_true, List.any_eq_true, beq_iff_eq, Nat.blt_eq] at this
    rcases this with h | ⟨h6, e, he, h7, h8⟩
    · exact absurd hd h
    · exact ⟨h6, e, he, h7, h8⟩
  · rw [hg] at h5
    simp only [Bool.and_eq_true, List.any_eq_true, beq_iff_eq, Nat.blt_eq] at h5
    obtain ⟨h6, e, he, h7, h8⟩ := h5
    exact ⟨h6, e, he, h7, h8⟩

theorem wantV_congr {ops : List Oper} {s s' : St} {o : Oper} (h : ∀ j want oj d, o.guard = some (j, want) → ops[j]? = some oj → oj.dst = some d → slot s.fr d = slot s'.fr d) : wantV ops s o = wantV ops s' o := by
  unfold wantV
  split
  · rfl
  · rename_i j want hg
    split
    · rfl
    · rename_i oj hoj
      split
      · rfl
      · rename_i d hd
        rw [h j want oj d hg hoj hd]

theorem drawn_wp (hE : EOk E) {ops : Array Oper} {id : Nat} {Q : Exit → Act → World → Prop} {s0 sN : St} {g : Gh} {a : Act} {w : World} (hok : drawOk s0.fr.length ops.toList = true) (hst : drawStart ops.toList s0 = true) (hen : drawEnd ops.toList sN = true)
    (ht : Trace E ops.toList (some s0.bx) ops.toList s0 sN) (h : Inv E B G0 w0 s0 g a w) (hk : ∀ g' a' w', Inv E B G0 w0 sN g' a' w' → Q .normal a' w') : (Code.region id ops true).wp E.P Q a w := by
  have hsp := drawOk_spec hok
  have hdst : ∀ o ∈ ops.toList, ∃ d, o.dst = some d := by
    intro o ho
    obtain ⟨i, hi⟩ := List.getElem?_of_mem ho
    obtain ⟨⟨d, hd, _⟩, _⟩ := hsp i o hi
    exact ⟨d, hd⟩
  obtain ⟨cs, hlen, hcs, hfin⟩ := trace_chgs ops.toList s0 sN hdst ht
  subst hfin
  have hcsd : ∀ (i : Nat) o c, ops.toList[i]? = some o → cs[i]? = some c → o.dst = some c.d := fun i o c h1 h2 => (hcs i o c h1 h2).1
  have hnd : (cs.map (·.d)).Nodup := by
    refine List.pairwise_iff_getElem.2 fun i j hi hj hij e => ?_
    rw [List.length_map] at hi hj
    have hiL : i < ops.toList.length := by omega
    have hjL : j < ops.toList.length := by omega
    have h1 := hcsd i _ _ (List.getElem?_eq_getElem hiL) (List.getElem?_eq_getElem hi)
    have h2 := hcsd j _ _ (List.getElem?_eq_getElem hjL) (List.getElem?_eq_getElem hj)
    simp only [List.getElem_map] at e
    refine (hsp i _ (List.getElem?_eq_getElem hiL)).2.1 j _ (List.getElem?_eq_getElem hjL) (by omega) ?_
    rw [h1, h2, e]
  have hfr : ∀ c ∈ cs, c.d < s0.fr.length := by
    intro c hc
    obtain ⟨i, hi⟩ := List.getElem?_of_mem hc
    have hiL : i < ops.toList.length := by rw [← hlen]; exact (List.getElem?_eq_some_iff.1 hi).1
    obtain ⟨⟨d, hd, hlt⟩, _⟩ := hsp i _ (List.getElem?_eq_getElem hiL)
    have := hcsd i _ c (List.getElem?_eq_getElem hiL) hi
    rw [this] at hd
    simp only [Option.some.injEq] at hd
    rw [hd]
    exact hlt
  have hsz : ops.toList.length = ops.size := by simp
  refine wp_region_any hE.mixed ?_
  let sel (listed : Array Bool) : Nat → Bool := fun i => listed.getD i false
  have key : ∀ (fuel : Nat) (listed : Array Bool) (g : Gh) (a : Act) (w : World), listed.size = ops.size → (listed.toList.countP fun b => !b) ≤ fuel → Closed ops.toList (sel listed) → Inv E B G0 w0 (selSt (sel listed) cs 0 s0) g a w → wpAny E.P .any ops Q fuel listed a w := by
    have fin : ∀ (listed : Array Bool) (g : Gh) (a : Act) (w : World), listed.size = ops.size → Closed ops.toList (sel listed) → Inv E B G0 w0 (selSt (sel listed) cs 0 s0) g a w → Region.ready .any ops listed = [] → Q .normal a w := by
      intro listed g a w hls hcl hi hr
      have hall : ∀ i, i < ops.size → listed.getD i true = true := by
        intro i
        induction i using Nat.strongRecOn with
        | _ i ih =>
          intro hi
          cases hl : listed.getD i true with
          | true => rfl
          | false =>
            have hm : i ∈ Region.ready .any ops listed := by
              rw [mem_ready]
              refine ⟨hl, ops[i], by simp [hi], fun e he hb => ?_⟩
              have h1 := (hsp i ops[i] (by simp [hi])).2.2.1 e (by simpa using he) hb
              have h2 := ih e.on h1 (by omega)
              have h4 : e.on < listed.size := by omega
              simp only [Array.getD_eq_getD_getElem?, Array.getElem?_eq_getElem h4, Option.getD_some] at h2 ⊢
              exact h2
            rw [hr] at hm
            cases hm
      have e1 : selSt (sel listed) cs 0 s0 = selSt (fun _ => true) cs 0 s0 := selSt_congr _ _ cs 0 s0 fun i _ hi => by
        have h1 := hall i (by omega)
        have h4 : i < listed.size := by omega
        show listed.getD i false = true
        simp only [Array.getD_eq_getD_getElem?, Array.getElem?_eq_getElem h4, Option.getD_some] at h1 ⊢
        exact h1
      rw [e1] at hi
      exact hk g a w hi
    intro fuel
    induction fuel with
    | zero =>
      intro listed g a w hls hc hcl hi
      have hr : Region.ready .any ops listed = [] := by
        rw [List.eq_nil_iff_forall_not_mem]
        intro i him
        obtain ⟨h0, o, ho, _⟩ := mem_ready.1 him
        have hi' : i < ops.size := (Array.getElem?_eq_some_iff.1 ho).1
        have h4 : i < listed.size := by omega
        simp only [Array.getD_eq_getD_getElem?, Array.getElem?_eq_getElem h4, Option.getD_some] at h0
        have : 0 < listed.toList.countP fun b => !b := List.countP_pos_iff.2 ⟨listed[i], by simp, by rw [h0]; rfl⟩
        omega
      exact ⟨hr, fin listed g a w hls hcl hi hr⟩
    | succ fuel ih =>
      intro listed g a w hls hc hcl hi
      refine ⟨fin listed g a w hls hcl hi, fun i him => ?_⟩
      obtain ⟨h0, o, ho, hafter⟩ := mem_ready.1 him
      have hi' : i < ops.size := (Array.getElem?_eq_some_iff.1 ho).1
      have h4 : i < listed.size := by omega
      have h0' : listed[i] = false := by
        simpa only [Array.getD_eq_getD_getElem?, Array.getElem?_eq_getElem h4, Option.getD_some] using h0
      have hsel : sel listed i = false := by
        show listed.getD i false = false
        simp only [Array.getD_eq_getD_getElem?, Array.getElem?_eq_getElem h4, Option.getD_some, h0']
      have hoL : ops.toList[i]? = some o := by simpa using ho
      have hiC : i < cs.length := by omega
      have hci : cs[i]? = some cs[i] := List.getElem?_eq_getElem hiC
      generalize cs[i] = c at hci
      obtain ⟨hod, si, _, hsi, hstep⟩ := hcs i o c hoL hci
      have hspi := hsp i o hoL
      -- what an operation looks at is there
      have hlook : ∀ t, (∀ (j : Nat) o', ops.toList[j]? = some o' → o'.dst = some t → j < i ∧ ∃ e ∈ o.after.toList, Region.binds .any e = true ∧ e.on = j) → slot (selSt (sel listed) cs 0 s0).fr t = slot si.fr t := by
        intro t htr
        rw [hsi]
        by_cases hex : ∃ cj ∈ cs, cj.d = t
        · obtain ⟨cj, hm, rfl⟩ := hex
          obtain ⟨j, hj⟩ := List.getElem?_of_mem hm
          have hjL : j < ops.toList.length := by rw [← hlen]; exact (List.getElem?_eq_some_iff.1 hj).1
          have hdj := hcsd j _ cj (List.getElem?_eq_getElem hjL) hj
          obtain ⟨hlt, e, he, hb, heq⟩ := htr j _ (List.getElem?_eq_getElem hjL) hdj
          have hjs : sel listed j = true := by rw [← heq]; exact hafter e (by simpa using he) hb
          rw [selSt_slot (sel listed) j cs 0 s0 cj (Nat.zero_le _) (by simpa using hj) hnd (hfr cj hm), selSt_slot (fun k => decide (k < i)) j cs 0 s0 cj (Nat.zero_le _) (by simpa using hj) hnd (hfr cj hm), if_pos hjs, if_pos (by simpa using hlt)]
        · rw [selSt_other _ t cs 0 s0 fun cj hm e => hex ⟨cj, hm, e⟩, selSt_other _ t cs 0 s0 fun cj hm e => hex ⟨cj, hm, e⟩]
      obtain ⟨hnl, hnb⟩ := fresh_sel hlen hcsd hnd hfr hst hen hcl hci hsel
      have hst' := hstep (selSt (sel listed) cs 0 s0) (wantV_congr fun j want oj d hg hoj hd => hlook d fun j' o' hj' hd' => by
          have : j' = j := by
            by_cases e : j' = j
            · exact e
            · exact absurd (hd'.trans hd.symm) ((hsp j' o' hj').2.1 j oj hoj e)
          subst this
          exact hspi.2.2.2.2 j' want hg) (opR_congr (evalO_slot fun t htm => hlook t (hspi.2.2.2.1 t htm))) hnl hnb
      have halike : Alike (c.app (selSt (sel listed) cs 0 s0)) (selSt (sel (listed.setIfInBounds i true)) cs 0 s0) := by
        have h1 := selSt_more (sel listed) i cs 0 s0 c (Nat.zero_le _) (by simpa using hci) hsel hnd
        have e1 : selSt (fun j => if j = i then true else sel listed j) cs 0 s0 = selSt (sel (listed.setIfInBounds i true)) cs 0 s0 := selSt_congr _ _ cs 0 s0 fun j _ _ => by
          show _ = (listed.setIfInBounds i true).getD j false
          by_cases ej : j = i
          · subst ej; simp [h4]
          · rw [if_neg ej, getD_set_ne false (fun h => ej h.symm)]
        rw [e1] at h1
        exact h1
      have hcl' : Closed ops.toList (sel (listed.setIfInBounds i true)) := by
        intro j oj hoj hjs e he hb
        have hjs : (listed.setIfInBounds i true).getD j false = true := hjs
        show (listed.setIfInBounds i true).getD e.on false = true
        by_cases ej : j = i
        · subst ej
          rw [hoL] at hoj
          simp only [Option.some.injEq] at hoj
          subst hoj
          exact getD_set_true (hafter e he hb)
        · rw [getD_set_ne false (fun h => ej h.symm)] at hjs
          exact getD_set_true (hcl j oj hoj hjs e he hb)
      have hcount : (((listed.setIfInBounds i true).toList).countP fun b => !b) ≤ fuel := by
        have h5 : ((listed.setIfInBounds i true).toList).countP (fun b => !b) + 1 = listed.toList.countP fun b => !b := by
          rw [Array.toList_setIfInBounds]
          have hil : i < listed.toList.length := by simpa using h4
          have e1 : listed.toList = listed.toList.take i ++ listed.toList[i] :: listed.toList.drop (i + 1) := by
            rw [List.getElem_cons_drop, List.take_append_drop]
          have e2 : listed.toList.set i true = listed.toList.take i ++ true :: listed.toList.drop (i + 1) := by
            rw [List.set_eq_take_append_cons_drop, if_pos hil]
          rw [e2]
          conv => rhs; rw [e1]
          have e3 : listed.toList[i] = false := by simpa using h0'
          rw [e3]
          simp only [List.countP_append, List.countP_cons]
          simp
          omega
        omega
      have next : ∀ g' a' w', Inv E B G0 w0 (c.app (selSt (sel listed) cs 0 s0)) g' a' w' → wpAny E.P .any ops Q fuel (listed.setIfInBounds i true) a' w' := fun g' a' w' hi' =>
        ih (listed.setIfInBounds i true) g' a' w' (by simpa using hls) hcount hcl' (hi'.alike halike)
      unfold wpOp
      rw [ho]
      simp only
      rcases hst' with ⟨hw, eff, hor, _, hr⟩ | ⟨hw, heq⟩
      · rw [if_pos (wantV_sound hi.fr hw)]
        refine .inl ?_
        have hsub : ∀ k ds, lookBx s0.bx k = some ds → lookBx (selSt (sel listed) cs 0 s0).bx k = some ds := by
          intro k ds hkd
          -- new boxes have other numbers
          have : ∀ (l : List Chg) (m : Nat) (s : St), (∀ c ∈ l, ∀ x, c.bx = some x → c.d ≠ k) → lookBx s.bx k = some ds → lookBx (selSt (sel listed) l m s).bx k = some ds := by
            intro l
            induction l with
            | nil => intro m s _ h; exact h
            | cons c l ih =>
              intro m s hne h
              unfold selSt
              refine ih (m + 1) _ (fun c' hc' => hne c' (List.mem_cons_of_mem _ hc')) ?_
              split
              · unfold Chg.app
                cases hb : c.bx with
                | none => exact h
                | some x =>
                  unfold lookBx
                  have : (c.d == k) = false := by rw [beq_eq_false_iff_ne]; exact hne c List.mem_cons_self x hb
                  rw [this, cond_false]
                  exact h
              · exact h
          refine this cs 0 s0 (fun cj hcj x hx e => ?_) hkd
          obtain ⟨j, hj⟩ := List.getElem?_of_mem hcj
          have hjL : j < ops.toList.length := by rw [← hlen]; exact (List.getElem?_eq_some_iff.1 hj).1
          have hdj := hcsd j _ cj (List.getElem?_eq_getElem hjL) hj
          unfold drawStart at hst
          rw [List.all_eq_true] at hst
          have h6 := hst _ (List.getElem_mem hjL)
          rw [hdj] at h6
          simp only [Bool.and_eq_true] at h6
          exact (noBox_bx h6.2 k ds hkd).1 e.symm
        have hdo := opR_sound (ac := a) (B := B) (w := w) (g := g) (bx := s0.bx) hE rfl hi.gok hi.own (hi.bxs.sub hsub) hi.hB (fun y => evalO_rep hi.fr hi.glob y) hor
        exact eff_inv hi hdo hsub hr fun g' a' w' h' _ => next g' a' w' h'
      · rw [if_neg (by rw [wantV_sound hi.fr hw]; decide)]
        refine next g _ w ?_
        rw [heq]
        exact hi.put o.dst (v := .tup []) (u := undef) ⟨[], rfl, .nil⟩
  have hinit : Inv E B G0 w0 (selSt (sel (Array.replicate ops.size false)) cs 0 s0) g a { w with drawn := w.drawn + 1 } := by
    have e1 : ∀ (l : List Chg) (k : Nat), selSt (sel (Array.replicate ops.size false)) l k s0 = s0 := by
      intro l
      induction l with
      | nil => intro k; rfl
      | cons c l ih =>
        intro k
        unfold selSt
        have : sel (Array.replicate ops.size false) k = false := by
          show (Array.replicate ops.size false).getD k false = false
          simp [Array.getElem?_replicate]
          split <;> rfl
        rw [this, if_neg (by decide)]
        exact ih (k + 1)
    rw [e1]
    exact h.drew
  refine key ops.size (Array.replicate ops.size false) g a _ (by simp) ?_ ?_ hinit
  · exact Nat.le_trans List.countP_le_length (by simp)
  · intro j o hj hs
    have hs : (Array.replicate ops.size false).getD j false = true := hs
    simp only [Array.getD_eq_getD_getElem?, Array.getElem?_replicate] at hs
    exfalso
    split at hs <;> cases hs
def exOf : Ex → Exit
  | .norm => .normal
  | .exit id => .exit id
  | .ret => .ret

/-- A code that leads from a state to another one. -/
def Leads (E : Env) (c : Code) (s : St) (e : Ex) (s' : St) : Prop := ∀ (B : Nat) (G0 : Known) (w0 : World) (g : Gh) (a : Act) (w : World), Inv E B G0 w0 s g a w → ∀ Q : Exit → Act → World → Prop, (∀ g' a' w', Inv E B G0 w0 s' g' a' w' → Q (exOf e) a' w') → c.wp E.P Q a w

theorem ev_sound (hE : EOk E) {α : Type} {call : Caller α} (hc : CallOk E call) (tot : Rd) (fuel : Nat) : ∀ (c : Code) (s : St) (K : Ex → St → Option α) (r : α), ev E call tot fuel c s K = some r → ∃ e s', K e s' = some r ∧ Leads E c s e s'
  | .skip, s, K, r, h => ⟨.norm, s, h, fun B G0 w0 g a w hi Q hk => wp_skip (hk g a w hi)⟩
  | .region id ops false, s, K, r, h => by
    unfold ev at h
    obtain ⟨s', ht, hs⟩ := evOps_rel hc ops.toList s _ r h
    refine ⟨.norm, s', hs, fun B G0 w0 g a w hi Q hk => ?_⟩
    have := trace_wp hE (Q := Q) ops.toList 0 s s' g a w (by simp) ht hi hk
    refine wp_region ?_
    rw [List.range_eq_range']
    simpa using this
  | .region id ops true, s, K, r, h => by
    unfold ev at h
    obtain ⟨h1, h2⟩ := cond_some h
    rw [Bool.and_eq_true] at h1
    obtain ⟨s', ht, hs⟩ := evOps_rel hc ops.toList s _ r h2
    obtain ⟨h3, h4⟩ := cond_some hs
    exact ⟨.norm, s', h4, fun B G0 w0 g a w hi Q hk => drawn_wp hE h1.1 h1.2 h3 ht hi hk⟩
  | .seq x y, s, K, r, h => by
    unfold ev at h
    obtain ⟨e, s1, he, hl⟩ := ev_sound hE hc tot fuel x s _ r h
    cases e with
    | norm =>
      obtain ⟨e2, s2, he2, hl2⟩ := ev_sound hE hc tot fuel y s1 K r he
      exact ⟨e2, s2, he2, fun B G0 w0 g a w hi Q hk => wp_seq (hl B G0 w0 g a w hi _ fun g' a' w' hi' => hl2 B G0 w0 g' a' w' hi' Q hk)⟩
    | exit id => exact ⟨.exit id, s1, he, fun B G0 w0 g a w hi Q hk => wp_seq (hl B G0 w0 g a w hi _ fun g' a' w' hi' => hk g' a' w' hi')⟩
    | ret => exact ⟨.ret, s1, he, fun B G0 w0 g a w hi Q hk => wp_seq (hl B G0 w0 g a w hi _ fun g' a' w' hi' => hk g' a' w' hi')⟩
  | .cond c x y, s, K, r, h => by
    unfold ev at h
    split at h
    · rename_i t ht
      have hv : ∀ {B G0 w0 g a w}, Inv E B G0 w0 s g a w → a.eval c = .bool t := fun {B G0 w0 g a w} hi => by
        have := evalO_rep hi.fr hi.glob c
        rw [ht, trep_bool] at this
        exact this
      rcases sel_some h with ⟨rfl, h⟩ | ⟨rfl, h⟩
      · obtain ⟨e, s1, he, hl⟩ := ev_sound hE hc tot fuel x s K r h
        exact ⟨e, s1, he, fun B G0 w0 g a w hi Q hk => wp_cond (hv hi) (hl B G0 w0 g a w hi Q hk)⟩
      · obtain ⟨e, s1, he, hl⟩ := ev_sound hE hc tot fuel y s K r h
        exact ⟨e, s1, he, fun B G0 w0 g a w hi Q hk => wp_cond (hv hi) (hl B G0 w0 g a w hi Q hk)⟩
    · cases h
  | .block id b, s, K, r, h => by
    unfold ev at h
    obtain ⟨e, s1, he, hl⟩ := ev_sound hE hc tot fuel b s _ r h
    cases e with
    | norm => exact ⟨.norm, s1, he, fun B G0 w0 g a w hi Q hk => wp_block (hl B G0 w0 g a w hi _ fun g' a' w' hi' => hk g' a' w' hi')⟩
    | ret => exact ⟨.ret, s1, he, fun B G0 w0 g a w hi Q hk => wp_block (hl B G0 w0 g a w hi _ fun g' a' w' hi' => hk g' a' w' hi')⟩
    | exit i =>
      have he : (bif i == id then K .norm s1 else K (.exit i) s1) = some r := he
      by_cases hid : i = id
      · have : (i == id) = true := by simpa using hid
        rw [this] at he
        refine ⟨.norm, s1, he, fun B G0 w0 g a w hi Q hk => wp_block (hl B G0 w0 g a w hi _ fun g' a' w' hi' => ?_)⟩
        show (if i = id then Q .normal a' w' else Q (.exit i) a' w')
        rw [if_pos hid]
        exact hk g' a' w' hi'
      · have : (i == id) = false := by simpa using hid
        rw [this] at he
        refine ⟨.exit i, s1, he, fun B G0 w0 g a w hi Q hk => wp_block (hl B G0 w0 g a w hi _ fun g' a' w' hi' => ?_)⟩
        show (if i = id then Q .normal a' w' else Q (.exit i) a' w')
        rw [if_neg hid]
        exact hk g' a' w' hi'
  | .loop b, s, K, r, h => by
    unfold ev at h
    generalize maskOf tot.tot tot.unc s.fr.length b = mask at h
    have key : ∀ (n : Nat) (s : St), loopK b (fun s K => ev E call tot fuel b s K) mask K n s = some r → ∃ e s', K e s' = some r ∧ ∀ (B : Nat) (G0 : Known) (w0 : World) (g : Gh) (a : Act) (w : World), Inv E B G0 w0 s g a w → ∀ Q : Exit → Act → World → Prop, (∀ g' a' w', Inv E B G0 w0 s' g' a' w' → Q (exOf e) a' w') → Code.rounds E.P b Q n a w := by
      intro n
      induction n with
      | zero => intro s h; cases h
      | succ n ih =>
        intro s h
        unfold loopK at h
        simp only [pf_eq] at h
        obtain ⟨e, s1, he, hl⟩ := ev_sound hE hc tot fuel b _ _ r h
        cases e with
        | norm =>
          obtain ⟨e2, s2, he2, hl2⟩ := ih _ he
          refine ⟨e2, s2, he2, fun B G0 w0 g a w hi Q hk => ?_⟩
          rw [rounds_succ]
          refine hl B G0 w0 g a w hi _ fun g' a' w' hi' => ?_
          obtain ⟨g1, hi1⟩ := hi'.head mask
          exact hl2 B G0 w0 g1 a' w' hi1 Q hk
        | exit id =>
          refine ⟨.exit id, s1, he, fun B G0 w0 g a w hi Q hk => ?_⟩
          rw [rounds_succ]
          exact hl B G0 w0 g a w hi _ fun g' a' w' hi' => hk g' a' w' hi'
        | ret =>
          refine ⟨.ret, s1, he, fun B G0 w0 g a w hi Q hk => ?_⟩
          rw [rounds_succ]
          exact hl B G0 w0 g a w hi _ fun g' a' w' hi' => hk g' a' w' hi'
    obtain ⟨e, s', he, hl⟩ := key fuel _ h
    refine ⟨e, s', he, fun B G0 w0 g a w hi Q hk => wp_loop_rounds fuel ?_⟩
    obtain ⟨g1, hi1⟩ := hi.head mask
    exact hl B G0 w0 g1 a w hi1 Q hk
  | .exit id, s, K, r, h => ⟨.exit id, s, h, fun B G0 w0 g a w hi Q hk => wp_exit (hk g a w hi)⟩
  | .label l, s, K, r, h => ⟨.norm, s, h, fun B G0 w0 g a w hi Q hk => wp_label (hk g a w hi)⟩
  | .ret, s, K, r, h => ⟨.ret, s, h, fun B G0 w0 g a w hi Q hk => wp_ret (hk g a w hi)⟩
  | .rangeFunc .., s, K, r, h => by unfold ev at h; cases h
  | .scope _, s, K, r, h => by unfold ev at h; cases h
  | .goto _, s, K, r, h => by unfold ev at h; cases h
  | .refuse _, s, K, r, h => by unfold ev at h; cases h

/-! ### Functions -/

theorem sres_of_srep {g : Gh} {w : World} {x : V} {v : Value} (hO : OOk B g w) (hx : x.single = true) (hb : ∀ k off, x ≠ .box k off) (h : srep g x v) : sres g.G w B x v := by
  cases x with
  | sl e sh ow xs =>
    cases ow with
    | none => exact h
    | some L =>
      obtain ⟨hL, ho⟩ := h
      obtain ⟨h1, h2⟩ := hO.1 L v e _ hL
      refine ⟨h1, ?_⟩
      rcases ho with ⟨hv, hx⟩ | ⟨b, cap, l, hv, hcap, hG, hl, hE⟩
      · exact .inl ⟨hv, hx⟩
      · rcases h2 with h2 | ⟨b', n, cap', cur, l', hv', hB', hh, hn, hcm, hcs, hG', hl'⟩
        · rw [hv] at h2; cases h2
        · rw [hv] at hv'
          simp only [Value.slice.injEq, Option.some.injEq, Addr.mk.injEq] at hv'
          obtain ⟨⟨rfl, _, _⟩, hn2, rfl⟩ := hv'
          exact .inr ⟨b, cap, cur, l, hv, hB', hh, hcap, hcm, hcs, hG, hl, hE⟩
  | box k off => exact absurd rfl (hb k off)
  | tup vs => cases hx
  | fn f c => cases hx
  | _ => exact h

/-- A result's value may be labelled, or is data. -/
def resOne : V → Bool
  | .tup _ => false
  | .fn _ _ => false
  | .box _ _ => false
  | _ => true

theorem deep_resOne {x y : V} (h : x.deep = some y) : resOne y = true := by
  cases x <;> simp [V.deep] at h <;> subst h <;> rfl

def resRun (a : Act) : ResultVar → Sem Value
  | .tmp t => pure (a.tmps.getD t undef)
  | .cell c t => do loadVar t (← asAddr (a.tmps.getD c undef))

theorem srep_of_deep {g : Gh} {x y : V} {v : Value} (h : trep g x v) (hd : x.deep = some y) : srep g y v ∧ resOne y = true := by
  have hpl := deep_plain hd
  exact ⟨trep_single (by cases y <;> first | rfl | cases hpl) (trep_of_rep hpl (trep_deep h hd)), deep_resOne hd⟩

theorem resAt_sound {s : St} {g : Gh} {a : Act} {w : World} {w0 : World} (hi : Inv E B G0 w0 s g a w) {x : ResultVar} {y : V} (h : resAt E.P s x = some y) : ∃ u, (resRun a x).run E.P w = .ok u w ∧ srep g y u ∧ resOne y = true := by
  cases x with
  | tmp t =>
    have hev : trep g (slot s.fr t) (a.tmps.getD t undef) := evalO_rep hi.fr hi.glob (.tmp t)
    refine ⟨a.tmps.getD t undef, rfl, ?_⟩
    simp only [resAt] at h
    split at h
    · rename_i e sh ow xs heq
      simp only [Option.some.injEq] at h
      subst h
      rw [heq] at hev
      exact ⟨trep_single rfl hev, rfl⟩
    · exact srep_of_deep hev h
  | cell c t =>
    have hev : trep g (slot s.fr c) (a.tmps.getD c undef) := evalO_rep hi.fr hi.glob (.tmp c)
    simp only [resAt] at h
    split at h
    · rename_i k off heq
      rw [heq] at hev
      obtain ⟨b, hb, hv⟩ := trep_box.1 hev
      have hrun : (resRun a (.cell c t)).run E.P w = (loadVar t ⟨b, off, none⟩).run E.P w := by
        simp only [resRun, Sem.run_bind, hv, Go.asAddr, Sem.run_pure, Result.andThen_ok]
      split at h
      · rename_i cells hl
        obtain ⟨b', cc, e, hb', _, hh, hpw, _, _⟩ := hi.bxs.1 k cells hl
        rw [hb] at hb'
        simp only [Option.some.injEq] at hb'
        subst hb'
        have hcell : ∀ (j : Nat) v, cc.toList[j]? = some v → w.cell? ⟨b, j, none⟩ = some v := by
          intro j v hv
          simp only [World.cell?, hh]
          simpa using hv
        split at h
        · rename_i hag
          split at h
          · rename_i n hs
            split at h
            · rename_i ds hds
              simp only [Option.some.injEq] at h
              subst h
              obtain ⟨h1, h2⟩ := readBx_pw hds hpw
              have hlen : ((cc.toList.drop off).take n).length = n := by rw [List.length_take, List.length_drop]; omega
              obtain ⟨dd, hd, hrw⟩ := isAggT_true hag
              obtain ⟨ii, hii, hin⟩ := sizeT_info hs
              have := run_loadVar_mid (P := E.P) w b off t ((cc.toList.drop off).take n) dd (fun j v hv => by
                rw [List.getElem?_take] at hv
                split at hv
                · rw [List.getElem?_drop] at hv; exact hcell _ _ hv
                · cases hv) hd hrw (by rw [hii, hlen]; simp [hin])
              refine ⟨_, hrun.trans this, ?_, rfl⟩
              show rep g.G (.agg ds) _
              unfold rep
              exact ⟨_, rfl, (repL_iff _ _).2 h2⟩
            · cases h
          · cases h
        · rename_i hag
          obtain ⟨h1, h2⟩ := cond_some h
          have hlt : off < cells.length := by simpa [Nat.blt_eq] using h1
          obtain ⟨v, hv2, hrr⟩ := hpw.get (getD_some hlt)
          have hld : (loadVar t ⟨b, off, none⟩).run E.P w = .ok v w := by
            simp only [loadVar, Sem.run_bind, isAggT_run hag, Result.andThen_ok, Bool.false_eq_true, if_false, run_load, hcell _ _ hv2]
          exact ⟨v, hrun.trans hld, srep_of_deep hrr h2⟩
        · cases h
      · cases h
    · cases h

theorem results_sound {s : St} {g : Gh} {a : Act} {w : World} {w0 : World} (hi : Inv E B G0 w0 s g a w) : ∀ (rs : List ResultVar) (vs : List V), resOf E.P s rs = some vs →
    ∃ us : List Value, (rs.mapM (resRun a)).run E.P w = .ok us w ∧ PW (fun x v => srep g x v ∧ resOne x = true) vs us
  | [], vs, h => by
    simp only [resOf, Option.some.injEq] at h
    subst h
    exact ⟨[], rfl, .nil⟩
  | x :: rs, vs, h => by
    simp only [resOf] at h
    split at h
    · cases h
    · rename_i y hy
      split at h
      · cases h
      · rename_i rest hr
        simp only [Option.some.injEq] at h
        subst h
        obtain ⟨us, hu, hp⟩ := results_sound hi rs rest hr
        obtain ⟨u, h1, h2⟩ := resAt_sound hi hy
        refine ⟨u :: us, ?_, .cons h2 hp⟩
        rw [List.mapM_cons]
        simp only [Sem.run_bind, h1, Sem.run_pure, Result.andThen_ok, hu]

theorem relabL_pw {g : Gh} {w : World} (hO : OOk B g w) : ∀ (vs : List V) (us : List Value) (b : Bool), PW (fun x v => srep g x v ∧ resOne x = true) vs us → PW (sres g.G w B) (relabL 0 b vs) us ∧ (relabL 0 b vs).countP hasL ≤ (if b then 1 else 0)
  | [], us, b, h => by rw [h.nil_iff]; cases b <;> exact ⟨.nil, by simp [relabL]⟩
  | x :: vs, us, b, h => by
    obtain ⟨u, t, rfl, ⟨h1, h2⟩, h3⟩ := h.cons_inv
    have hsing : x.single = true := by cases x <;> first | rfl | cases h2
    have hbox : ∀ k off, x ≠ .box k off := fun k off e => by subst e; cases h2
    have hs := sres_of_srep hO hsing hbox h1
    cases x with
    | sl e sh ow xs =>
      cases ow with
      | some L =>
        cases b with
        | true =>
          obtain ⟨p, c⟩ := relabL_pw hO vs t false h3
          refine ⟨.cons hs p, ?_⟩
          show (V.sl e sh (some 0) xs :: relabL 0 false vs).countP hasL ≤ 1
          rw [List.countP_cons]
          simp only [hasL, if_true]
          simp at c
          have : List.countP hasL (relabL 0 false vs) = 0 := by
            rw [List.countP_eq_zero]
            intro y hy
            have := c y hy
            simpa using this
          omega
        | false =>
          obtain ⟨p, c⟩ := relabL_pw hO vs t false h3
          refine ⟨.cons (show rep g.G (V.sl e sh none xs) u from ownG_rep h1.2) p, ?_⟩
          show (V.sl e sh none xs :: relabL 0 false vs).countP hasL ≤ _
          rw [List.countP_cons]
          simpa [hasL] using c
      | none =>
        obtain ⟨p, c⟩ := relabL_pw hO vs t b h3
        have e1 : relabL 0 b (V.sl e sh none xs :: vs) = V.sl e sh none xs :: relabL 0 b vs := by cases b <;> rfl
        rw [e1]
        refine ⟨.cons hs p, ?_⟩
        rw [List.countP_cons]
        simpa [hasL] using c
    | _ =>
      obtain ⟨p, c⟩ := relabL_pw hO vs t b h3
      cases b <;> exact ⟨.cons hs p, by simp only [relabL]; rw [List.countP_cons]; simpa [hasL] using c⟩
def packR : List Value → Value
  | [u] => u
  | us => .tuple us.toArray

theorem results_run {fn : Func} {a : Act} {w : World} {us : List Value} (h : (fn.results.toList.mapM (resRun a)).run E.P w = .ok us w) :
    (results fn a.tmps).run E.P w = .ok (packR us) w := by
  have key : results fn a.tmps = (do let vs ← fn.results.mapM (resRun a); pure (if h : vs.size = 1 then vs[0] else .tuple vs)) := by
    unfold results
    congr 1
  rw [key, Array.mapM_eq_mapM_toList]
  simp only [Sem.run_bind, Sem.run_map, h, Result.andThen_ok, Sem.run_pure]
  congr 1
  match us with
  | [] => simp [packR]
  | [u] => simp [packR]
  | u :: v :: l => simp [packR]

theorem ret_res {g : Gh} {w : World} (hO : OOk B g w) {vs : List V} {us : List Value} (h : PW (fun x v => srep g x v ∧ resOne x = true) vs us) : resrep g.G w B (retOf vs) (packR us) := by
  have tupcase : ∀ (vs : List V) (us : List Value), PW (fun x v => srep g x v ∧ resOne x = true) vs us → resrep g.G w B (.tup (relabL 0 true vs)) (.tuple us.toArray) := fun vs us h => by
    obtain ⟨p, c⟩ := relabL_pw hO vs us true h
    exact ⟨us, rfl, p, by simpa using c⟩
  match vs, us, h with
  | [], us, h => rw [h.nil_iff]; exact tupcase [] [] .nil
  | [x], us, h =>
    obtain ⟨u, t, rfl, ⟨h1, h2⟩, h3⟩ := h.cons_inv
    rw [h3.nil_iff]
    have hsing : x.single = true := by cases x <;> first | rfl | cases h2
    have hbox : ∀ k off, x ≠ .box k off := fun k off e => by subst e; cases h2
    have hs := sres_of_srep hO hsing hbox h1
    show resrep g.G w B x u
    cases x with
    | tup _ => cases h2
    | _ => exact hs
  | x :: y :: vs, us, h =>
    have hl := h.1
    match us, hl with
    | u :: v :: us, _ => exact tupcase _ _ h

theorem bd_sound (hE : EOk E) {α : Type} {call : Caller α} (ih : CallOk E call) (fuel : Nat) : CallOk E (evBd E call fuel) := by
  intro f args K r h
  unfold evBd at h
  split at h
  · cases h
  · rename_i fn hfn
    split at h
    · rename_i c args' hb hargs
      obtain ⟨e, s', he, hl⟩ := ev_sound hE ih _ fuel c _ _ r h
      have hret : ∃ vs, resOf E.P s' fn.results.toList = some vs ∧ K (retOf vs) = some r ∧ (e = .norm ∨ e = .ret) := by
        unfold finK at he
        split at he
        · split at he
          · rename_i vs hvs; exact ⟨vs, hvs, he, .inl rfl⟩
          · cases he
        · split at he
          · rename_i vs hvs; exact ⟨vs, hvs, he, .inr rfl⟩
          · cases he
        · cases he
      obtain ⟨vs, hvs, hK, hee⟩ := hret
      refine ⟨retOf vs, hK, ?_⟩
      intro G w us hG hglob hp
      have hpd : PW (rep G) args' us := deepL_gen (R := rep G) (fun x y v h hd => rep_deep h hd) args args' us hargs hp
      have hplain : ∀ x ∈ args', x.plain = true := by
        have : ∀ (l l' : List V), V.deepL l = some l' → ∀ x ∈ l', x.plain = true := by
          intro l
          induction l with
          | nil => intro l' h x hx; simp [V.deepL] at h; subst h; cases hx
          | cons y l ih =>
            intro l' h x hx
            simp only [V.deepL] at h
            split at h
            · rename_i p q hp hq
              simp only [Option.some.injEq] at h
              subst h
              rcases List.mem_cons.1 hx with rfl | hx
              · exact deep_plain hp
              · exact ih _ hq x hx
            · cases h
        exact this _ _ hargs
      refine calls_of_wp hfn hb ?_
      let g0 : Gh := ⟨G, fun _ => none, fun _ => none⟩
      have hinit : Inv E w.heap.size G w ⟨startFr fn args', []⟩ g0 { tmps := us.toArray ++ Array.replicate (fn.ntmps - us.toArray.size) undef, defers := [] } w := by
        refine ⟨?_, rfl, hG, ⟨fun L v e sz h => (by cases h), fun L L' v v' e e' sz sz' b h => (by cases h)⟩, ⟨fun k cs h => (by cases h), fun k k' cs cs' h => (by cases h)⟩, Below.refl _ _, Nat.le_refl _, fun _ _ => rfl, hglob⟩
        show PW (trep g0) (args' ++ List.replicate (fn.ntmps - args'.length) (.tup [])) _
        have e1 : (us.toArray ++ Array.replicate (fn.ntmps - us.toArray.size) undef).toList = us ++ List.replicate (fn.ntmps - args'.length) undef := by
          rw [hpd.1]; simp
        show PW (trep g0) _ (us.toArray ++ Array.replicate (fn.ntmps - us.toArray.size) undef).toList
        rw [e1]
        refine (hpd.mono fun x hx v hv => trep_of_rep (hplain x hx) hv).append ⟨by simp, fun i x v hx hv => ?_⟩
        rw [List.getElem?_replicate] at hx hv
        split at hx
        · rename_i hlt
          rw [if_pos hlt] at hv
          simp only [Option.some.injEq] at hx hv
          subst hx; subst hv
          exact ⟨[], rfl, .nil⟩
        · cases hx
      refine hl w.heap.size G w g0 _ w hinit _ fun g' a' w' hi => ?_
      obtain ⟨us', hu, hpu⟩ := results_sound hi _ _ hvs
      have hrun := results_run hu
      have hres := ret_res hi.own hpu
      have hnew : New w w' G g'.G := ⟨hi.bel, fun b hb => hi.ext b hb, hi.gok⟩
      rcases hee with rfl | rfl
      · exact ⟨hi.df, _, hrun, _, g'.G, rfl, hnew, hres⟩
      · exact ⟨hi.df, _, hrun, _, g'.G, rfl, hnew, hres⟩
    · cases h

theorem fn_sound (hE : EOk E) {specs : List (Nat × FSpec)} (hs : ∀ f sp, findSpec specs f = some sp → ∀ args r, sp args = some (true, r) → Contract E f args r) (fuel : Nat) {α : Type} : ∀ d, CallOk E (evFn (α := α) E specs fuel d) := by
  have spec_case : ∀ f sp, findSpec specs f = some sp → ∀ args (K : V → Option α) r, (match sp args with | some (c, v) => sel c (K v) none | none => none) = some r → ∃ v, K v = some r ∧ Contract E f args v := by
    intro f sp hf args K r h
    split at h
    · rename_i c v hv
      rcases sel_some h with ⟨rfl, h⟩ | ⟨_, h⟩
      · exact ⟨v, h, hs f sp hf args v hv⟩
      · cases h
    · cases h
  intro d
  induction d with
  | zero =>
    intro f args K r h
    unfold evFn at h
    split at h
    · rename_i sp hf
      exact spec_case f sp hf args K r h
    · cases h
  | succ d ih =>
    intro f args K r h
    unfold evFn at h
    split at h
    · rename_i sp hf
      exact spec_case f sp hf args K r h
    · exact bd_sound hE ih fuel f args K r h

/-- A contract, read off the evaluator. -/
theorem contract_of_ev (hE : EOk E) {specs : List (Nat × FSpec)} (hs : ∀ f sp, findSpec specs f = some sp → ∀ args r, sp args = some (true, r) → Contract E f args r) (fuel d : Nat) {f : Nat} {args : List V} {r : V} (h : evFn E specs fuel d f args some = some r) : Contract E f args r := by
  obtain ⟨v, hv, hc⟩ := fn_sound hE hs fuel (α := V) d f args some r h
  simp only [Option.some.injEq] at hv
  subst hv
  exact hc

def SOk (E : Env) (S : List (Nat × FSpec)) : Prop := ∀ f sp, findSpec S f = some sp → ∀ args r, sp args = some (true, r) → Contract E f args r

theorem SOk.nil : SOk E [] := fun f sp h => by cases h
theorem SOk.cons {S : List (Nat × FSpec)} {f : Nat} {sp : FSpec} (h : ∀ args r, sp args = some (true, r) → Contract E f args r) (hS : SOk E S) : SOk E ((f, sp) :: S) := by
  intro g sp' hf args r hr
  unfold findSpec at hf
  cases hg : f == g with
  | true =>
    rw [hg, cond_true] at hf
    simp only [Option.some.injEq] at hf
    subst hf
    have : f = g := by simpa using hg
    subst this
    exact h args r hr
  | false =>
    rw [hg, cond_false] at hf
    exact hS g sp' hf args r hr

/-- A contract, read off a function's body. -/
theorem contract_of_body (hE : EOk E) {S : List (Nat × FSpec)} (hS : SOk E S) (fuel d : Nat) {f : Nat} {args : List V} {r : V} (h : evBd E (evFn E S fuel d) fuel f args some = some r) : Contract E f args r := by
  obtain ⟨v, hv, hc⟩ := bd_sound hE (fn_sound hE hS fuel (α := V) d) fuel f args some r h
  simp only [Option.some.injEq] at hv
  subst hv
  exact hc
end
end Nt.Ev
