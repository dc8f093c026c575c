/-
  The plain law of formats: what is a name, where it is cut, which kind it is. Formats, further: how a difference is written; what the document's check asks. Format: equations of functions, as the evaluator prints them. Formats: what the program's functions and the document's answer. Formats: what a time is called, both sides.
-/
import Derived.Lib.IndexMore
import Derived.Test.YtheojhajckcdlaaGreatDoorME
set_option linter.unusedVariables false
set_option linter.unusedSimpArgs false
set_option linter.unusedSectionVars false
namespace Nt.Fmt
open Go
def letB (c : UInt8) : Bool := decide ((65 ≤ c.toNat ∧ c.toNat ≤ 90) ∨ (97 ≤ c.toNat ∧ c.toNat ≤ 122) ∨ (48 ≤ c.toNat ∧ c.toNat ≤ 57) ∨ c.toNat = 43 ∨ c.toNat = 45)
def wordB (s : List UInt8) : Bool := s.all letB
def kindR (s w : List UInt8) : List UInt8 → Int × List UInt8 × List UInt8
  | [] => if w = [] then (0, [], []) else (1, s, [])
  | c :: t =>
    if c = 37 then
      match t with
      | [] => (0, [], [])
      | x :: b => if x = 115 then (if wordB b = true then (2, w, b) else (0, [], [])) else if x = 122 ∧ b = [] ∧ w = [] then (3, [], []) else (0, [], [])
    else if c = 47 then (if w ≠ [] ∧ t ≠ [] ∧ wordB t = true then (4, w, t) else (0, [], [])) else (0, [], [])
def kindQ (s : List UInt8) : Int × List UInt8 × List UInt8 := kindR s (s.takeWhile letB) (s.dropWhile letB)
theorem split_word : ∀ s : List UInt8, s = s.takeWhile letB ++ s.dropWhile letB ∧ wordB (s.takeWhile letB) = true ∧ (s.dropWhile letB = [] ∨ ∃ c t, s.dropWhile letB = c :: t ∧ letB c = false)
  | [] => ⟨rfl, rfl, .inl rfl⟩
  | c :: l => by
    obtain ⟨h1, h2, h3⟩ := split_word l
    cases hc : letB c with
    | true =>
      rw [List.takeWhile_cons, List.dropWhile_cons, hc]
      simp only [if_true]
      refine ⟨by rw [List.cons_append, ← h1], ?_, h3⟩
      unfold wordB at h2 ⊢
      rw [List.all_cons, hc, h2]; rfl
    | false =>
      rw [List.takeWhile_cons, List.dropWhile_cons, hc]
      simp only [Bool.false_eq_true, if_false]
      exact ⟨rfl, rfl, .inr ⟨c, l, rfl, hc⟩⟩
theorem parts_of (w r : List UInt8) (hw : wordB w = true) (hr : r = [] ∨ ∃ c t, r = c :: t ∧ letB c = false) : (w ++ r).takeWhile letB = w ∧ (w ++ r).dropWhile letB = r := by
  induction w with
  | nil =>
    rcases hr with rfl | ⟨c, t, rfl, hc⟩
    · exact ⟨rfl, rfl⟩
    · simp [List.takeWhile_cons, List.dropWhile_cons, hc]
  | cons a w ih =>
    unfold wordB at hw
    rw [List.all_cons, Bool.and_eq_true] at hw
    obtain ⟨i1, i2⟩ := ih hw.2
    rw [List.cons_append, List.takeWhile_cons, List.dropWhile_cons, hw.1, i1, i2]
    simp
theorem kind_of (w r : List UInt8) (hw : wordB w = true) (hr : r = [] ∨ ∃ c t, r = c :: t ∧ letB c = false) : kindQ (w ++ r) = kindR (w ++ r) w r := by
  unfold kindQ
  obtain ⟨h1, h2⟩ := parts_of w r hw hr
  rw [h1, h2]
theorem word_mem {w : List UInt8} (h : wordB w = true) {c : UInt8} (hc : c ∈ w) : letB c = true := List.all_eq_true.1 h c hc
theorem word_app (a b : List UInt8) : wordB (a ++ b) = (wordB a && wordB b) := by unfold wordB; rw [List.all_append]
theorem cut_word (w r : List UInt8) (x : UInt8) (sep : List UInt8) (hw : wordB w = true) (hx : letB x = false) :
    (∃ b, r = x :: sep ++ b ∧ Lib.cut (w ++ r) (x :: sep) = (w, b, true)) ∨
    ((x :: sep).isPrefixOf r = false ∧ (Lib.cut (w ++ r) (x :: sep) = (w ++ r, [], false) ∨ ∃ a b, Lib.cut (w ++ r) (x :: sep) = (a, b, true) ∧ w.length < a.length ∧ a <+: w ++ r)) := by
  have hbef : ∀ j, j < w.length → Lib.occAt (w ++ r) (x :: sep) j = false := by
    intro j hj
    unfold Lib.occAt
    rw [List.drop_append_of_le_length (by omega), List.drop_eq_getElem_cons hj, List.cons_append, List.isPrefixOf]
    have : (x == w[j]) = false := by
      rw [beq_eq_false_iff_ne]
      intro e
      have := word_mem hw (List.getElem_mem hj)
      rw [← e, hx] at this
      cases this
    rw [this]; rfl
  by_cases hp : (x :: sep).isPrefixOf r = true
  · left
    rw [List.isPrefixOf_iff_prefix] at hp
    obtain ⟨b, hb⟩ := hp
    refine ⟨b, hb.symm, ?_⟩
    have hi : Lib.index (w ++ r) (x :: sep) = (w.length : Nat) := Lib.index_first (by simp) (by
      unfold Lib.occAt
      rw [List.drop_left, List.isPrefixOf_iff_prefix]
      exact ⟨b, hb⟩) hbef
    unfold Lib.cut
    rw [hi, if_pos (by omega), Int.toNat_natCast, List.take_left, ← List.drop_drop, List.drop_left, ← hb, List.drop_left]
  · right
    have hp : (x :: sep).isPrefixOf r = false := Bool.eq_false_iff.2 hp
    refine ⟨hp, ?_⟩
    rcases Lib.index_spec (w ++ r) (x :: sep) with ⟨h1, _⟩ | ⟨i, h1, h2, h3, _⟩
    · left
      unfold Lib.cut
      rw [h1, if_neg (by decide)]
    · right
      have hge : w.length < i := by
        rcases Nat.lt_trichotomy i w.length with hlt | heq | hgt
        · rw [hbef i hlt] at h3; cases h3
        · subst heq
          unfold Lib.occAt at h3
          rw [List.drop_left, hp] at h3; cases h3
        · exact hgt
      refine ⟨(w ++ r).take i, (w ++ r).drop (i + (x :: sep).length), ?_, ?_, List.take_prefix _ _⟩
      · unfold Lib.cut
        rw [h1, if_pos (by omega), Int.toNat_natCast]
      · rw [List.length_take]; omega
theorem long_word (w r a : List UInt8) (hr : r = [] ∨ ∃ c t, r = c :: t ∧ letB c = false) (hl : w.length < a.length) (hp : a <+: w ++ r) : wordB a = false := by
  obtain ⟨t, ht⟩ := hp
  have hlen := congrArg List.length ht
  rw [List.length_append, List.length_append] at hlen
  rcases hr with rfl | ⟨c, t', rfl, hc⟩
  · simp at hlen; omega
  · have h1 : (a ++ t)[w.length]? = some c := by rw [ht]; simp
    rw [List.getElem?_append_left hl] at h1
    cases hw : wordB a with
    | false => rfl
    | true =>
      have := word_mem hw (List.mem_of_getElem? h1)
      rw [hc] at this; cases this
def cutA (s c : List UInt8) : List UInt8 := (Lib.cut s c).1
def cutZ (s c : List UInt8) : List UInt8 := (Lib.cut s c).2.1
def cutIs (s c : List UInt8) : Bool := (Lib.cut s c).2.2
def slash (s : List UInt8) : Prop := cutIs s [47] = true ∧ cutA s [47] ≠ [] ∧ cutZ s [47] ≠ [] ∧ wordB (cutA s [47]) = true ∧ wordB (cutZ s [47]) = true
def perc (s : List UInt8) : Prop := cutIs s [37, 115] = true ∧ wordB (cutA s [37, 115]) = true ∧ wordB (cutZ s [37, 115]) = true
instance (s) : Decidable (slash s) := inferInstanceAs (Decidable (_ ∧ _))
instance (s) : Decidable (perc s) := inferInstanceAs (Decidable (_ ∧ _))
def kindP (s : List UInt8) : Int × List UInt8 × List UInt8 :=
  if s = [37, 122] then (3, [], []) else if perc s then (2, cutA s [37, 115], cutZ s [37, 115]) else if slash s then (4, cutA s [47], cutZ s [47]) else if s ≠ [] ∧ wordB s = true then (1, s, []) else (0, [], [])
theorem perc_iff (w r : List UInt8) (hw : wordB w = true) (hr : r = [] ∨ ∃ c t, r = c :: t ∧ letB c = false) :
    (∃ b, r = 37 :: 115 :: b ∧ wordB b = true ∧ perc (w ++ r) ∧ cutA (w ++ r) [37, 115] = w ∧ cutZ (w ++ r) [37, 115] = b) ∨ (¬ perc (w ++ r) ∧ ∀ b, r = 37 :: 115 :: b → wordB b = false) := by
  rcases cut_word w r 37 [115] hw (by decide) with ⟨b, rfl, hc⟩ | ⟨hp, hc⟩
  · have h1 : cutA (w ++ (37 :: [115] ++ b)) [37, 115] = w := by unfold cutA; rw [hc]
    have h2 : cutZ (w ++ (37 :: [115] ++ b)) [37, 115] = b := by unfold cutZ; rw [hc]
    have h3 : cutIs (w ++ (37 :: [115] ++ b)) [37, 115] = true := by unfold cutIs; rw [hc]
    cases hb : wordB b with
    | true => exact .inl ⟨b, rfl, hb, ⟨h3, by rw [h1]; exact hw, by rw [h2]; exact hb⟩, h1, h2⟩
    | false =>
      refine .inr ⟨fun h => ?_, fun b' e => ?_⟩
      · have := h.2.2
        rw [h2, hb] at this; cases this
      · simp at e; rw [← e]; exact hb
  · refine .inr ⟨fun h => ?_, fun b e => ?_⟩
    · rcases hc with hc | ⟨a, b, hc, hl, hpre⟩
      · have := h.1; unfold cutIs at this; rw [hc] at this; cases this
      · have h2 := h.2.1
        unfold cutA at h2
        rw [hc] at h2
        rw [long_word w r a hr hl hpre] at h2; cases h2
    · rw [e] at hp; simp [List.isPrefixOf] at hp
theorem slash_iff (w r : List UInt8) (hw : wordB w = true) (hr : r = [] ∨ ∃ c t, r = c :: t ∧ letB c = false) :
    (∃ b, r = 47 :: b ∧ b ≠ [] ∧ w ≠ [] ∧ wordB b = true ∧ slash (w ++ r) ∧ cutA (w ++ r) [47] = w ∧ cutZ (w ++ r) [47] = b) ∨ (¬ slash (w ++ r) ∧ ∀ b, r = 47 :: b → ¬ (w ≠ [] ∧ b ≠ [] ∧ wordB b = true)) := by
  rcases cut_word w r 47 [] hw (by decide) with ⟨b, rfl, hc⟩ | ⟨hp, hc⟩
  · have h1 : cutA (w ++ (47 :: [] ++ b)) [47] = w := by unfold cutA; rw [hc]
    have h2 : cutZ (w ++ (47 :: [] ++ b)) [47] = b := by unfold cutZ; rw [hc]
    have h3 : cutIs (w ++ (47 :: [] ++ b)) [47] = true := by unfold cutIs; rw [hc]
    by_cases hb : w ≠ [] ∧ b ≠ [] ∧ wordB b = true
    · exact .inl ⟨b, rfl, hb.2.1, hb.1, hb.2.2, ⟨h3, by rw [h1]; exact hb.1, by rw [h2]; exact hb.2.1, by rw [h1]; exact hw, by rw [h2]; exact hb.2.2⟩, h1, h2⟩
    · refine .inr ⟨fun h => hb ?_, fun b' e => ?_⟩
      · obtain ⟨_, k1, k2, _, k4⟩ := h
        rw [h1] at k1
        rw [h2] at k2 k4
        exact ⟨k1, k2, k4⟩
      · simp at e; rw [← e]; exact hb
  · refine .inr ⟨fun h => ?_, fun b e => ?_⟩
    · rcases hc with hc | ⟨a, b, hc, hl, hpre⟩
      · have := h.1; unfold cutIs at this; rw [hc] at this; cases this
      · have h2 := h.2.2.2.1
        unfold cutA at h2
        rw [hc] at h2
        rw [long_word w r a hr hl hpre] at h2; cases h2
    · rw [e] at hp; simp [List.isPrefixOf] at hp
theorem kindP_eq (s : List UInt8) : kindP s = kindQ s := by
  obtain ⟨h1, hw, hr⟩ := split_word s
  generalize s.takeWhile letB = w at *
  generalize s.dropWhile letB = r at *
  subst h1
  rw [kind_of w r hw hr]
  unfold kindP
  by_cases hz : w ++ r = [37, 122]
  · rw [if_pos hz]
    have hw0 : w = [] := by
      cases w with
      | nil => rfl
      | cons a w =>
        have : a = 37 := by simpa using (List.cons.inj hz).1
        subst this
        have := word_mem hw (List.mem_cons_self)
        exact absurd this (by decide)
    subst hw0
    have : r = [37, 122] := hz
    subst this
    rfl
  · rw [if_neg hz]
    rcases perc_iff w r hw hr with ⟨b, rfl, hb, hp, e1, e2⟩ | ⟨hp, hpn⟩
    · rw [if_pos hp, e1, e2]
      simp [kindR, hb]
    · rw [if_neg hp]
      rcases slash_iff w r hw hr with ⟨b, rfl, hb0, hw0, hb, hs, e1, e2⟩ | ⟨hs, hsn⟩
      · rw [if_pos hs, e1, e2]
        simp [kindR, hw0, hb0, hb]
      · rw [if_neg hs]
        rcases hr with rfl | ⟨c, t, rfl, hc⟩
        · rw [List.append_nil]
          by_cases h0 : w = []
          · simp [kindR, h0]
          · simp [kindR, h0, hw]
        · have hnw : wordB (w ++ c :: t) = false := by
            rw [word_app]
            unfold wordB
            rw [List.all_cons, hc]; simp
          rw [if_neg (fun h => by rw [hnw] at h; cases h.2)]
          by_cases h37 : c = 37
          · subst h37
            cases t with
            | nil => simp [kindR]
            | cons x b =>
              by_cases hx : x = 115
              · subst hx
                simp [kindR, hpn b rfl]
              · have : ¬ (x = 122 ∧ b = [] ∧ w = []) := by
                  rintro ⟨rfl, rfl, rfl⟩
                  exact hz rfl
                simp [kindR, hx]
                intro h1 h2 h3
                exact absurd ⟨h1, h2, h3⟩ this
          · by_cases h47 : c = 47
            · subst h47
              have := hsn t rfl
              simp [kindR]
              intro h1 h2
              cases hb : wordB t with
              | false => rfl
              | true => exact absurd ⟨h1, h2, hb⟩ this
            · simp [kindR, h37, h47]
end Nt.Fmt

namespace Nt.Fmt
open Go
def dig2 (k : Nat) : List UInt8 := [UInt8.ofNat (48 + k / 10), UInt8.ofNat (48 + k % 10)]
def writtenN (k : Nat) : List UInt8 := dig2 (k / 3600) ++ (if k % 3600 = 0 then [] else dig2 (k / 60 % 60) ++ (if k % 60 = 0 then [] else dig2 (k % 60)))
def written (n : Int) : List UInt8 := (if n < 0 then 45 else 43) :: writtenN n.natAbs
def okC (c : UInt8) : Bool := letB c || decide (c = 37) || decide (c = 47)
end Nt.Fmt

namespace Nt.Ev.YtheojhajckcdlaaGreatDoor
set_option maxRecDepth 100000
open Go Nt.Num Go.Proofs.YtheojhajckcdlaaGreatDoor
variable [MLen]
noncomputable def fE : Env := ⟨Go.Proofs.Tryz.prog, fun g => bif g == 1 then some (.rptr [.int .i64] (.int .i64 MLen.val) 0) else none⟩
def asciiB (l : List UInt8) : Bool := l.all fun c => decide (c.toNat < 128)
def trimC (s c : List UInt8) : List UInt8 := Lib.trimS s c
def cutA (s c : List UInt8) : List UInt8 := (Lib.cut s c).1
def cutZ (s c : List UInt8) : List UInt8 := (Lib.cut s c).2.1
def cutIs (s c : List UInt8) : Bool := (Lib.cut s c).2.2
noncomputable def trimS1 : FSpec := fun a => match a with | [.str s, .str c] => some (band (ile (slen s) 1000) (band (ile (slen c) 1000) (asciiB c)), .str (trimC s c)) | _ => none
noncomputable def cutS1 : FSpec := fun a => match a with | [.str s, .str c] => some (band (ile (slen s) 1000) (band (ile 1 (slen c)) (ile (slen c) 2)), .tup [.str (cutA s c), .str (cutZ s c), .bool (cutIs s c)]) | _ => none
noncomputable def fS : List (Nat × FSpec) := (72, trimS1) :: (47, cutS1) :: []
open Nt.Fmt
noncomputable def fWordS : FSpec := fun a => match a with | [.str s] => some (ile (slen s) 1000, .bool (wordB s)) | _ => none
noncomputable def fS2 : List (Nat × FSpec) := (48, fWordS) :: fS
def fkK (s : List UInt8) : Int := (Fmt.kindQ s).1
def fkA (s : List UInt8) : List UInt8 := (Fmt.kindQ s).2.1
def fkZ (s : List UInt8) : List UInt8 := (Fmt.kindQ s).2.2
def wrT (n : Int) : List UInt8 := Fmt.written n
noncomputable def fCutS : FSpec := fun a => match a with | [.str s] => some (ile (slen s) 1000, .tup [.int .i64 (fkK s), .str (fkA s), .str (fkZ s)]) | _ => none
noncomputable def writtenS : FSpec := fun a => match a with | [.int .i64 n] => some (band (ile (-359999) n) (ile n 359999), .str (wrT n)) | _ => none
noncomputable def fSl : List (Nat × FSpec) := fS2
noncomputable def fS3 : List (Nat × FSpec) := (24, fCutS) :: (59, writtenS) :: fSl
def ckW (s : List UInt8) : Int := if 16 < s.length then 9 else if fkK s = 0 then 4 else 0
noncomputable def checkS : FSpec := fun a => match a with | [.str s] => some (ile (slen s) 1000, .int .i64 (ckW s)) | _ => none
def leP (s : List UInt8) : List UInt8 × Int := if s = [45] then ([], 0) else if 6 < s.length then ([], 9) else if s = [] ∨ wordB s = false then ([], 4) else (s, 0)
def leT (s : List UInt8) : List UInt8 := (leP s).1
def leW (s : List UInt8) : Int := (leP s).2
noncomputable def letterS : FSpec := fun a => match a with | [.str s] => some (ile (slen s) 1000, .tup [.str (leT s), .int .i64 (leW s)]) | _ => none
noncomputable def fS4 : List (Nat × FSpec) := (13, checkS) :: (67, letterS) :: fS3
theorem fWord_top (F : Nat) (s : List UInt8) (K : V → Option V) :
 evBd fE (evFn fE fS F 2) F 48 [(V.str s)] K =
 sel (band (ile (slen s) 1000) (band (ile (slen [65, 66, 67, 68, 69, 70, 71, 72, 73, 74, 75, 76, 77, 78, 79, 80, 81, 82, 83, 84, 85, 86, 87, 88, 89, 90, 97, 98, 99, 100, 101, 102, 103, 104, 105, 106, 107, 108, 109, 110, 111, 112, 113, 114, 115, 116, 117, 118, 119, 120, 121, 122, 48, 49, 50, 51, 52, 53, 54, 55, 56, 57, 43, 45]) 1000) (asciiB [65, 66, 67, 68, 69, 70, 71, 72, 73, 74, 75, 76, 77, 78, 79, 80, 81, 82, 83, 84, 85, 86, 87, 88, 89, 90, 97, 98, 99, 100, 101, 102, 103, 104, 105, 106, 107, 108, 109, 110, 111, 112, 113, 114, 115, 116, 117, 118, 119, 120, 121, 122, 48, 49, 50, 51, 52, 53, 54, 55, 56, 57, 43, 45])))
 (K (V.bool (seq (trimC s [65, 66, 67, 68, 69, 70, 71, 72, 73, 74, 75, 76, 77, 78, 79, 80, 81, 82, 83, 84, 85, 86, 87, 88, 89, 90, 97, 98, 99, 100, 101, 102, 103, 104, 105, 106, 107, 108, 109, 110, 111, 112, 113, 114, 115, 116, 117, 118, 119, 120, 121, 122, 48, 49, 50, 51, 52, 53, 54, 55, 56, 57, 43, 45]) [])))
 (none) := by kernel_rfl
theorem fCut_top (F : Nat) (s : List UInt8) (K : V → Option V) :
 evBd fE (evFn fE fS2 F 2) F 24 [(V.str s)] K =
 sel (seq s [37, 122])
 (K (V.tup [(V.int .i64 3), (V.str []), (V.str [])]))
 (sel (band (ile (slen s) 1000) (band (ile 1 (slen [37, 115])) (ile (slen [37, 115]) 2)))
 (sel (cutIs s [37, 115])
 (sel (ile (slen (cutA s [37, 115])) 1000)
 (sel (wordB (cutA s [37, 115]))
 (sel (ile (slen (cutZ s [37, 115])) 1000)
 (sel (wordB (cutZ s [37, 115]))
 (K (V.tup [(V.int .i64 2), (V.str (cutA s [37, 115])), (V.str (cutZ s [37, 115]))]))
 (sel (band (ile (slen s) 1000) (band (ile 1 (slen [47])) (ile (slen [47]) 2)))
 (sel (cutIs s [47])
 (sel (bnot (seq (cutA s [47]) []))
 (sel (bnot (seq (cutZ s [47]) []))
 (sel (ile (slen (cutA s [47])) 1000)
 (sel (wordB (cutA s [47]))
 (sel (ile (slen (cutZ s [47])) 1000)
 (sel (wordB (cutZ s [47]))
 (K (V.tup [(V.int .i64 4), (V.str (cutA s [47])), (V.str (cutZ s [47]))]))
 (sel (bnot (seq s []))
 (sel (ile (slen s) 1000)
 (sel (wordB s)
 (K (V.tup [(V.int .i64 1), (V.str s), (V.str [])]))
 (K (V.tup [(V.int .i64 0), (V.str []), (V.str [])])))
 (none))
 (K (V.tup [(V.int .i64 0), (V.str []), (V.str [])]))))
 (none))
 (sel (bnot (seq s []))
 (sel (ile (slen s) 1000)
 (sel (wordB s)
 (K (V.tup [(V.int .i64 1), (V.str s), (V.str [])]))
 (K (V.tup [(V.int .i64 0), (V.str []), (V.str [])])))
 (none))
 (K (V.tup [(V.int .i64 0), (V.str []), (V.str [])]))))
 (none))
 (sel (bnot (seq s []))
 (sel (ile (slen s) 1000)
 (sel (wordB s)
 (K (V.tup [(V.int .i64 1), (V.str s), (V.str [])]))
 (K (V.tup [(V.int .i64 0), (V.str []), (V.str [])])))
 (none))
 (K (V.tup [(V.int .i64 0), (V.str []), (V.str [])]))))
 (sel (bnot (seq s []))
 (sel (ile (slen s) 1000)
 (sel (wordB s)
 (K (V.tup [(V.int .i64 1), (V.str s), (V.str [])]))
 (K (V.tup [(V.int .i64 0), (V.str []), (V.str [])])))
 (none))
 (K (V.tup [(V.int .i64 0), (V.str []), (V.str [])]))))
 (sel (bnot (seq s []))
 (sel (ile (slen s) 1000)
 (sel (wordB s)
 (K (V.tup [(V.int .i64 1), (V.str s), (V.str [])]))
 (K (V.tup [(V.int .i64 0), (V.str []), (V.str [])])))
 (none))
 (K (V.tup [(V.int .i64 0), (V.str []), (V.str [])]))))
 (none)))
 (none))
 (sel (band (ile (slen s) 1000) (band (ile 1 (slen [47])) (ile (slen [47]) 2)))
 (sel (cutIs s [47])
 (sel (bnot (seq (cutA s [47]) []))
 (sel (bnot (seq (cutZ s [47]) []))
 (sel (ile (slen (cutA s [47])) 1000)
 (sel (wordB (cutA s [47]))
 (sel (ile (slen (cutZ s [47])) 1000)
 (sel (wordB (cutZ s [47]))
 (K (V.tup [(V.int .i64 4), (V.str (cutA s [47])), (V.str (cutZ s [47]))]))
 (sel (bnot (seq s []))
 (sel (ile (slen s) 1000)
 (sel (wordB s)
 (K (V.tup [(V.int .i64 1), (V.str s), (V.str [])]))
 (K (V.tup [(V.int .i64 0), (V.str []), (V.str [])])))
 (none))
 (K (V.tup [(V.int .i64 0), (V.str []), (V.str [])]))))
 (none))
 (sel (bnot (seq s []))
 (sel (ile (slen s) 1000)
 (sel (wordB s)
 (K (V.tup [(V.int .i64 1), (V.str s), (V.str [])]))
 (K (V.tup [(V.int .i64 0), (V.str []), (V.str [])])))
 (none))
 (K (V.tup [(V.int .i64 0), (V.str []), (V.str [])]))))
 (none))
 (sel (bnot (seq s []))
 (sel (ile (slen s) 1000)
 (sel (wordB s)
 (K (V.tup [(V.int .i64 1), (V.str s), (V.str [])]))
 (K (V.tup [(V.int .i64 0), (V.str []), (V.str [])])))
 (none))
 (K (V.tup [(V.int .i64 0), (V.str []), (V.str [])]))))
 (sel (bnot (seq s []))
 (sel (ile (slen s) 1000)
 (sel (wordB s)
 (K (V.tup [(V.int .i64 1), (V.str s), (V.str [])]))
 (K (V.tup [(V.int .i64 0), (V.str []), (V.str [])])))
 (none))
 (K (V.tup [(V.int .i64 0), (V.str []), (V.str [])]))))
 (sel (bnot (seq s []))
 (sel (ile (slen s) 1000)
 (sel (wordB s)
 (K (V.tup [(V.int .i64 1), (V.str s), (V.str [])]))
 (K (V.tup [(V.int .i64 0), (V.str []), (V.str [])])))
 (none))
 (K (V.tup [(V.int .i64 0), (V.str []), (V.str [])]))))
 (none)))
 (none))
 (sel (band (ile (slen s) 1000) (band (ile 1 (slen [47])) (ile (slen [47]) 2)))
 (sel (cutIs s [47])
 (sel (bnot (seq (cutA s [47]) []))
 (sel (bnot (seq (cutZ s [47]) []))
 (sel (ile (slen (cutA s [47])) 1000)
 (sel (wordB (cutA s [47]))
 (sel (ile (slen (cutZ s [47])) 1000)
 (sel (wordB (cutZ s [47]))
 (K (V.tup [(V.int .i64 4), (V.str (cutA s [47])), (V.str (cutZ s [47]))]))
 (sel (bnot (seq s []))
 (sel (ile (slen s) 1000)
 (sel (wordB s)
 (K (V.tup [(V.int .i64 1), (V.str s), (V.str [])]))
 (K (V.tup [(V.int .i64 0), (V.str []), (V.str [])])))
 (none))
 (K (V.tup [(V.int .i64 0), (V.str []), (V.str [])]))))
 (none))
 (sel (bnot (seq s []))
 (sel (ile (slen s) 1000)
 (sel (wordB s)
 (K (V.tup [(V.int .i64 1), (V.str s), (V.str [])]))
 (K (V.tup [(V.int .i64 0), (V.str []), (V.str [])])))
 (none))
 (K (V.tup [(V.int .i64 0), (V.str []), (V.str [])]))))
 (none))
 (sel (bnot (seq s []))
 (sel (ile (slen s) 1000)
 (sel (wordB s)
 (K (V.tup [(V.int .i64 1), (V.str s), (V.str [])]))
 (K (V.tup [(V.int .i64 0), (V.str []), (V.str [])])))
 (none))
 (K (V.tup [(V.int .i64 0), (V.str []), (V.str [])]))))
 (sel (bnot (seq s []))
 (sel (ile (slen s) 1000)
 (sel (wordB s)
 (K (V.tup [(V.int .i64 1), (V.str s), (V.str [])]))
 (K (V.tup [(V.int .i64 0), (V.str []), (V.str [])])))
 (none))
 (K (V.tup [(V.int .i64 0), (V.str []), (V.str [])]))))
 (sel (bnot (seq s []))
 (sel (ile (slen s) 1000)
 (sel (wordB s)
 (K (V.tup [(V.int .i64 1), (V.str s), (V.str [])]))
 (K (V.tup [(V.int .i64 0), (V.str []), (V.str [])])))
 (none))
 (K (V.tup [(V.int .i64 0), (V.str []), (V.str [])]))))
 (none)))
 (none)) := by kernel_rfl
noncomputable def fWritten_L0 (F : Nat) (ns : List Nat) (n : Nat) (x0 : Int) (x3 : List V) (x17 : Int) (b4_0 : Int) (b4_1 : Int) (b4_2 : Int) (K : V → Option V) : Option V :=
 loopAt fE fS2 F 2 59 [1, 1, 1, 1, 0, 1, 0] ns K n (mkSt 47 [(0, V.int .i64 x0), (2, V.str []), (3, V.sl 5 [(Kd.int .u8)] (some 3) x3), (4, (V.box 4 0)), (16, V.agg [V.int .i64 3600, V.int .i64 60, V.int .i64 1]), (17, V.int .i64 x17)] [(4, [V.int .i64 b4_0, V.int .i64 b4_1, V.int .i64 b4_2])])
theorem fWritten_top (F : Nat) (n : Int) (K : V → Option V) :
 evBd fE (evFn fE fS2 F 2) F 59 [(V.int .i64 n)] K =
 sel (ilt n 0)
 (sel (band (ile 0 0) (ilt 0 (llen [(V.int .u8 43)])))
 (fWritten_L0 F [] F (isub .i64 0 n) (lset [(V.int .u8 43)] 0 (V.int .u8 45)) 0 3600 60 1 K)
 (none))
 (fWritten_L0 F [] F n [(V.int .u8 43)] 0 3600 60 1 K) := by kernel_rfl
theorem fWritten_L0_succ (F : Nat) (n : Nat) (x0 : Int) (x3 : List V) (x17 : Int) (b4_0 : Int) (b4_1 : Int) (b4_2 : Int) (K : V → Option V) :
 fWritten_L0 F [] (n + 1) x0 x3 x17 b4_0 b4_1 b4_2 K =
 sel (ilt x17 3)
 (sel (ieq x17 0)
 (sel (ieq x17 0)
 (sel (okApp x3 [(V.int .u8 (icnv .u8 (iadd .i64 48 (iquo .i64 (iquo .i64 x0 3600) 10)))), (V.int .u8 (icnv .u8 (iadd .i64 48 (irem (iquo .i64 x0 3600) 10))))])
 (fWritten_L0 F [] n (irem x0 3600) (lcat x3 [(V.int .u8 (icnv .u8 (iadd .i64 48 (iquo .i64 (iquo .i64 x0 3600) 10)))), (V.int .u8 (icnv .u8 (iadd .i64 48 (irem (iquo .i64 x0 3600) 10))))]) (iadd .i64 x17 1) b4_0 b4_1 b4_2 K)
 (none))
 (sel (ilt 0 x0)
 (sel (okApp x3 [(V.int .u8 (icnv .u8 (iadd .i64 48 (iquo .i64 (iquo .i64 x0 3600) 10)))), (V.int .u8 (icnv .u8 (iadd .i64 48 (irem (iquo .i64 x0 3600) 10))))])
 (fWritten_L0 F [] n (irem x0 3600) (lcat x3 [(V.int .u8 (icnv .u8 (iadd .i64 48 (iquo .i64 (iquo .i64 x0 3600) 10)))), (V.int .u8 (icnv .u8 (iadd .i64 48 (irem (iquo .i64 x0 3600) 10))))]) (iadd .i64 x17 1) b4_0 b4_1 b4_2 K)
 (none))
 (fWritten_L0 F [] n (irem x0 3600) x3 (iadd .i64 x17 1) b4_0 b4_1 b4_2 K)))
 (sel (ieq x17 1)
 (sel (ieq x17 0)
 (sel (okApp x3 [(V.int .u8 (icnv .u8 (iadd .i64 48 (iquo .i64 (iquo .i64 x0 60) 10)))), (V.int .u8 (icnv .u8 (iadd .i64 48 (irem (iquo .i64 x0 60) 10))))])
 (fWritten_L0 F [] n (irem x0 60) (lcat x3 [(V.int .u8 (icnv .u8 (iadd .i64 48 (iquo .i64 (iquo .i64 x0 60) 10)))), (V.int .u8 (icnv .u8 (iadd .i64 48 (irem (iquo .i64 x0 60) 10))))]) (iadd .i64 x17 1) b4_0 b4_1 b4_2 K)
 (none))
 (sel (ilt 0 x0)
 (sel (okApp x3 [(V.int .u8 (icnv .u8 (iadd .i64 48 (iquo .i64 (iquo .i64 x0 60) 10)))), (V.int .u8 (icnv .u8 (iadd .i64 48 (irem (iquo .i64 x0 60) 10))))])
 (fWritten_L0 F [] n (irem x0 60) (lcat x3 [(V.int .u8 (icnv .u8 (iadd .i64 48 (iquo .i64 (iquo .i64 x0 60) 10)))), (V.int .u8 (icnv .u8 (iadd .i64 48 (irem (iquo .i64 x0 60) 10))))]) (iadd .i64 x17 1) b4_0 b4_1 b4_2 K)
 (none))
 (fWritten_L0 F [] n (irem x0 60) x3 (iadd .i64 x17 1) b4_0 b4_1 b4_2 K)))
 (sel (ieq x17 2)
 (sel (ieq x17 0)
 (sel (okApp x3 [(V.int .u8 (icnv .u8 (iadd .i64 48 (iquo .i64 (iquo .i64 x0 1) 10)))), (V.int .u8 (icnv .u8 (iadd .i64 48 (irem (iquo .i64 x0 1) 10))))])
 (fWritten_L0 F [] n (irem x0 1) (lcat x3 [(V.int .u8 (icnv .u8 (iadd .i64 48 (iquo .i64 (iquo .i64 x0 1) 10)))), (V.int .u8 (icnv .u8 (iadd .i64 48 (irem (iquo .i64 x0 1) 10))))]) (iadd .i64 x17 1) b4_0 b4_1 b4_2 K)
 (none))
 (sel (ilt 0 x0)
 (sel (okApp x3 [(V.int .u8 (icnv .u8 (iadd .i64 48 (iquo .i64 (iquo .i64 x0 1) 10)))), (V.int .u8 (icnv .u8 (iadd .i64 48 (irem (iquo .i64 x0 1) 10))))])
 (fWritten_L0 F [] n (irem x0 1) (lcat x3 [(V.int .u8 (icnv .u8 (iadd .i64 48 (iquo .i64 (iquo .i64 x0 1) 10)))), (V.int .u8 (icnv .u8 (iadd .i64 48 (irem (iquo .i64 x0 1) 10))))]) (iadd .i64 x17 1) b4_0 b4_1 b4_2 K)
 (none))
 (fWritten_L0 F [] n (irem x0 1) x3 (iadd .i64 x17 1) b4_0 b4_1 b4_2 K)))
 (none))))
 (K (V.str (vbytes x3))) := by kernel_rfl
theorem fLetter_top (F : Nat) (s : List UInt8) (K : V → Option V) :
 evBd fE (evFn fE fS2 F 2) F 67 [(V.str s)] K =
 sel (seq s [45])
 (K (V.tup [(V.str []), (V.int .i64 0)]))
 (sel (ilt 6 (slen s))
 (K (V.tup [(V.str []), (V.int .i64 9)]))
 (sel (seq s [])
 (K (V.tup [(V.str []), (V.int .i64 4)]))
 (sel (ile (slen s) 1000)
 (sel (bnot (wordB s))
 (K (V.tup [(V.str []), (V.int .i64 4)]))
 (K (V.tup [(V.str s), (V.int .i64 0)])))
 (none)))) := by kernel_rfl
theorem fCheck_top (F : Nat) (s : List UInt8) (K : V → Option V) :
 evBd fE (evFn fE fS3 F 2) F 13 [(V.str s)] K =
 sel (ilt 16 (slen s))
 (K (V.int .i64 9))
 (sel (ile (slen s) 1000)
 (sel (ieq (fkK s) 0)
 (K (V.int .i64 4))
 (K (V.int .i64 0)))
 (none)) := by kernel_rfl
theorem fAbbr_top (F : Nat) (s : List UInt8) (n : Int) (m : Int) (t : List UInt8) (K : V → Option V) :
 evBd fE (evFn fE fS4 F 2) F 35 [(V.str s), (V.int .i64 n), (V.int .i64 m), (V.str t)] K =
 sel (ile (slen s) 1000)
 (sel (bnot (ieq (ckW s) 0))
 (K (V.tup [(V.str []), (V.int .i64 (ckW s))]))
 (sel (ilt n (-359999))
 (K (V.tup [(V.str []), (V.int .i64 1)]))
 (sel (ilt 359999 n)
 (K (V.tup [(V.str []), (V.int .i64 1)]))
 (sel (ile (slen s) 1000)
 (sel (ieq (fkK s) 2)
 (sel (okCat (fkA s) t)
 (sel (okCat (scat (fkA s) t) (fkZ s))
 (K (V.tup [(V.str (scat (scat (fkA s) t) (fkZ s))), (V.int .i64 0)]))
 (none))
 (none))
 (sel (ieq (fkK s) 3)
 (sel (band (ile (-359999) n) (ile n 359999))
 (K (V.tup [(V.str (wrT n)), (V.int .i64 0)]))
 (none))
 (sel (ieq (fkK s) 4)
 (sel (bnot (ieq m 0))
 (K (V.tup [(V.str (fkZ s)), (V.int .i64 0)]))
 (K (V.tup [(V.str (fkA s)), (V.int .i64 0)])))
 (K (V.tup [(V.str (fkA s)), (V.int .i64 0)])))))
 (none)))))
 (none) := by kernel_rfl
theorem fLText_top (F : Nat) (s : List UInt8) (K : V → Option V) :
 evBd fE (evFn fE fS4 F 2) F 42 [(V.str s)] K =
 sel (seq s [])
 (K (V.tup [(V.str [45]), (V.int .i64 0)]))
 (sel (ile (slen s) 1000)
 (sel (bnot (ieq (leW s) 0))
 (K (V.tup [(V.str []), (V.int .i64 4)]))
 (sel (bnot (seq (leT s) s))
 (K (V.tup [(V.str []), (V.int .i64 4)]))
 (K (V.tup [(V.str s), (V.int .i64 0)]))))
 (none)) := by kernel_rfl
end Nt.Ev.YtheojhajckcdlaaGreatDoor

namespace Nt.Ev.YtheojhajckcdlaaGreatDoor
open Go Go.RowKit Nt Nt.Num Nt.Fmt Go.Proofs.YtheojhajckcdlaaGreatDoor
variable [MLen]
theorem fE_ok : EOk fE := ⟨by kernel_rfl, by kernel_rfl⟩
theorem len_f {s : List UInt8} (h : ile (slen s) 1000 = true) : s.length ≤ 1000 := by rw [ile_iff, slen_nat] at h; omega
theorem trimS1_ok (s c : List UInt8) (hc : band (ile (slen s) 1000) (band (ile (slen c) 1000) (asciiB c)) = true) : Contract fE 72 [.str s, .str c] (.str (trimC s c)) := by
  obtain ⟨h1, h2⟩ := band_true hc
  obtain ⟨h2, h3⟩ := band_true h2
  have h1 := len_f h1
  have h2 := len_f h2
  refine contract_old fun G w vs hG hg hp => ?_
  obtain ⟨x, y, rfl, hx, hy⟩ := PW_two hp
  unfold rep at hx hy
  subst hx; subst hy
  refine (Go.Proofs.Tryz.strings_Trim ⟨s.toArray⟩ ⟨c.toArray⟩ w (show s.toArray.size ≤ _ by simp; omega) (show c.toArray.size < _ by simp; omega) (fun j b hb => ?_)).mono ?_
  · have h3 : (c.all fun c => decide (c.toNat < 128)) = true := h3
    have := List.all_eq_true.1 h3 b (List.mem_of_getElem? hb)
    exact of_decide_eq_true this
  · rintro e w' ⟨rfl, hb⟩
    exact ⟨_, rfl, hb, res_str _⟩
theorem cutS1_ok (s c : List UInt8) (hc : band (ile (slen s) 1000) (band (ile 1 (slen c)) (ile (slen c) 2)) = true) : Contract fE 47 [.str s, .str c] (.tup [.str (cutA s c), .str (cutZ s c), .bool (cutIs s c)]) := by
  obtain ⟨h1, _⟩ := band_true hc
  have h1 := len_f h1
  refine contract_old fun G w vs hG hg hp => ?_
  obtain ⟨x, y, rfl, hx, hy⟩ := PW_two hp
  unfold rep at hx hy
  subst hx; subst hy
  have hm := glob_int (E := fE) hG hg (n := 1) (k := .i64) (m := MLen.val) rfl
  refine (Go.Proofs.Tryz.strings_Cut ⟨s.toArray⟩ ⟨c.toArray⟩ _ w (show s.toArray.size < _ by simp; omega) hm).mono ?_
  rintro e w' ⟨rfl, n, rfl⟩
  exact ⟨_, rfl, Nt.below_drewN (Below.refl _ _) n, res_tup (vs := [_, _, _]) (.cons (same_str _) (.cons (same_str _) (.cons (same_bool _) .nil)))⟩
theorem fS_ok : SOk fE fS := by
  unfold fS
  refine SOk.cons (fun args r h => ?_) (SOk.cons (fun args r h => ?_) (SOk.nil))
  · unfold trimS1 at h
    split at h
    · simp only [Option.some.injEq, Prod.mk.injEq] at h
      obtain ⟨hc, rfl⟩ := h
      exact trimS1_ok _ _ hc
    · cases h
  · unfold cutS1 at h
    split at h
    · simp only [Option.some.injEq, Prod.mk.injEq] at h
      obtain ⟨hc, rfl⟩ := h
      exact cutS1_ok _ _ hc
    · cases h
def lettersF : List UInt8 := [65, 66, 67, 68, 69, 70, 71, 72, 73, 74, 75, 76, 77, 78, 79, 80, 81, 82, 83, 84, 85, 86, 87, 88, 89, 90, 97, 98, 99, 100, 101, 102, 103, 104, 105, 106, 107, 108, 109, 110, 111, 112, 113, 114, 115, 116, 117, 118, 119, 120, 121, 122, 48, 49, 50, 51, 52, 53, 54, 55, 56, 57, 43, 45]
theorem letters_let (c : UInt8) : lettersF.contains c = letB c := by
  have h : ∀ n : Fin 256, lettersF.contains (UInt8.ofNat n) = letB (UInt8.ofNat n) := by decide +kernel
  have := h ⟨c.toNat, c.toNat_lt⟩
  simpa using this
theorem drop_nil (p : UInt8 → Bool) : ∀ l : List UInt8, l.dropWhile p = [] ↔ ∀ x ∈ l, p x = true
  | [] => by simp
  | x :: l => by
    rw [List.dropWhile_cons]
    cases h : p x with
    | true => simp [h, drop_nil p l]
    | false => simp [h]
theorem take_all (p : UInt8 → Bool) : ∀ (l : List UInt8) (x : UInt8), x ∈ l.takeWhile p → p x = true
  | [], _, h => by cases h
  | y :: l, x, h => by
    rw [List.takeWhile_cons] at h
    cases hy : p y with
    | true =>
      rw [hy, if_pos rfl, List.mem_cons] at h
      rcases h with rfl | h
      · exact hy
      · exact take_all p l x h
    | false => rw [hy] at h; cases h
theorem trim_word (s : List UInt8) : seq (trimC s lettersF) [] = wordB s := by
  unfold seq trimC Lib.trimS Lib.trimLeftS Lib.trimRightS
  simp only [letters_let]
  rw [Bool.eq_iff_iff, beq_iff_eq, drop_nil]
  unfold wordB
  rw [List.all_eq_true]
  constructor
  · intro h x hx
    have hx : x ∈ s.reverse := by simpa using hx
    rw [← List.takeWhile_append_dropWhile (p := fun x => letB x) (l := s.reverse), List.mem_append] at hx
    rcases hx with hx | hx
    · exact take_all _ _ _ hx
    · exact h x (by simpa using hx)
  · intro h x hx
    rw [List.mem_reverse] at hx
    have := (List.dropWhile_sublist (fun x => letB x)).subset hx
    exact h x (by simpa using this)
theorem fWordS_ok (s : List UInt8) (hc : ile (slen s) 1000 = true) : Contract fE 48 [.str s] (.bool (wordB s)) := by
  refine contract_of_body fE_ok fS_ok 5 2 ?_
  rw [fWord_top]
  have h2 := trim_word s
  unfold lettersF at h2
  rw [h2, hc, sel_pos (by decide)]
theorem fS2_ok : SOk fE fS2 := by
  unfold fS2
  refine SOk.cons (fun args r h => ?_) (fS_ok)
  · unfold fWordS at h
    split at h
    · simp only [Option.some.injEq, Prod.mk.injEq] at h
      obtain ⟨hc, rfl⟩ := h
      exact fWordS_ok _ hc
    · cases h
theorem selT (x y : Option V) : sel true x y = x := rfl
theorem selF (x y : Option V) : sel false x y = y := rfl
theorem sel_and2 (b c : Bool) (X T : Option V) : sel (bnot b) (sel c X T) T = if ¬ (b = true) ∧ c = true then X else T := by cases b <;> cases c <;> rfl
theorem sel_and3 (a b c : Bool) (X T : Option V) : sel a (sel b (sel c X T) T) T = if a = true ∧ b = true ∧ c = true then X else T := by cases a <;> cases b <;> cases c <;> rfl
theorem sel_and5 (a b c d e : Bool) (X T : Option V) : sel a (sel (bnot b) (sel (bnot c) (sel d (sel e X T) T) T) T) T = if a = true ∧ ¬ (b = true) ∧ ¬ (c = true) ∧ d = true ∧ e = true then X else T := by cases a <;> cases b <;> cases c <;> cases d <;> cases e <;> rfl
theorem cut_len (s c : List UInt8) : (cutA s c).length ≤ s.length ∧ (cutZ s c).length ≤ s.length := by
  unfold cutA cutZ Lib.cut
  split <;> simp <;> omega
theorem fCutS_ok (s : List UInt8) (hc : ile (slen s) 1000 = true) : Contract fE 24 [.str s] (.tup [.int .i64 (fkK s), .str (fkA s), .str (fkZ s)]) := by
  refine contract_of_body fE_ok fS2_ok 5 2 ?_
  rw [fCut_top]
  have hl := len_f hc
  have a1 : ile (slen (cutA s [37, 115])) 1000 = true := ile_t (by have := (cut_len s [37, 115]).1; rw [slen_nat]; omega)
  have a2 : ile (slen (cutZ s [37, 115])) 1000 = true := ile_t (by have := (cut_len s [37, 115]).2; rw [slen_nat]; omega)
  have a3 : ile (slen (cutA s [47])) 1000 = true := ile_t (by have := (cut_len s [47]).1; rw [slen_nat]; omega)
  have a4 : ile (slen (cutZ s [47])) 1000 = true := ile_t (by have := (cut_len s [47]).2; rw [slen_nat]; omega)
  have a5 : band (ile (slen s) 1000) (band (ile 1 (slen [37, 115])) (ile (slen [37, 115]) 2)) = true := by rw [hc]; rfl
  have a6 : band (ile (slen s) 1000) (band (ile 1 (slen [47])) (ile (slen [47]) 2)) = true := by rw [hc]; rfl
  simp only [a5, a6]
  simp only [hc, a1, a2, a3, a4, selT]
  unfold fkK fkA fkZ
  rw [← kindP_eq]
  unfold kindP perc slash
  rw [sel_and5, sel_and3, sel_and2, sel_if]
  simp only [seq_iff, show @Fmt.cutA = @Nt.Ev.YtheojhajckcdlaaGreatDoor.cutA from rfl, show @Fmt.cutZ = @Nt.Ev.YtheojhajckcdlaaGreatDoor.cutZ from rfl, show @Fmt.cutIs = @Nt.Ev.YtheojhajckcdlaaGreatDoor.cutIs from rfl]
  split
  · rfl
  · split
    · rfl
    · split
      · rfl
      · split <;> rfl
theorem fSl_ok : SOk fE fSl := by
  unfold fSl
  refine fS2_ok
theorem w_q (a u : Nat) (hu : 0 < u) (ha : a ≤ 359999) : iquo .i64 (a : Int) (u : Int) = ((a / u : Nat) : Int) := by
  rw [iquo64 (by omega) (by omega) (by omega)]; rfl
theorem w_r (a u : Nat) : irem (a : Int) (u : Int) = ((a % u : Nat) : Int) := by
  rw [irem_pos (by omega)]; rfl
def digV (k : Nat) : List V := [.int .u8 ((48 + k / 10 : Nat) : Int), .int .u8 ((48 + k % 10 : Nat) : Int)]
theorem digV_eq (q : Nat) (h : q < 100) : [V.int .u8 (icnv .u8 (iadd .i64 48 (iquo .i64 (q : Int) 10))), V.int .u8 (icnv .u8 (iadd .i64 48 (irem (q : Int) 10)))] = digV q := by
  have e1 := w_q q 10 (by decide) (by omega)
  have e2 := w_r q 10
  rw [show ((10 : Nat) : Int) = 10 from rfl] at e1 e2
  rw [e1, e2, iadd64 (by omega), iadd64 (by omega), icnvu8 (by omega), icnvu8 (by omega)]
  unfold digV
  congr 2 <;> congr 1 <;> omega
theorem digV_len (q : Nat) : (digV q).length = 2 := rfl
theorem vb_app (a b : List V) : vbytes (lcat a b) = vbytes a ++ vbytes b := by unfold vbytes lcat; rw [List.map_append]
theorem vb_dig (q : Nat) : vbytes (digV q) = dig2 q := rfl
section
variable (F n : Nat) (a : Nat) (xs : List V) (hx : xs.length ≤ 10) (K : V → Option V)
theorem w_round0 (ha : a ≤ 359999) (hx : xs.length ≤ 10) : fWritten_L0 F [] (n + 1) a xs 0 3600 60 1 K = fWritten_L0 F [] n ((a % 3600 : Nat) : Int) (lcat xs (digV (a / 3600))) 1 3600 60 1 K := by
  rw [fWritten_L0_succ, sel_pos (by decide), sel_pos (by decide), sel_pos (by decide)]
  have e1 := w_q a 3600 (by decide) ha
  have e2 := w_r a 3600
  rw [show ((3600 : Nat) : Int) = 3600 from rfl] at e1 e2
  rw [e1, e2, digV_eq _ (by omega), sel_pos (by rw [okApp_iff, digV_len]; omega), iadd64 (by omega)]
  rfl
theorem w_round1 (ha : a < 3600) (hx : xs.length ≤ 10) : fWritten_L0 F [] (n + 1) a xs 1 3600 60 1 K = fWritten_L0 F [] n ((a % 60 : Nat) : Int) (if a = 0 then xs else lcat xs (digV (a / 60))) 2 3600 60 1 K := by
  rw [fWritten_L0_succ, sel_pos (by decide), sel_neg (by decide), sel_pos (by decide), sel_neg (by decide)]
  have e1 := w_q a 60 (by decide) (by omega)
  have e2 := w_r a 60
  rw [show ((60 : Nat) : Int) = 60 from rfl] at e1 e2
  have k1 : okApp xs (digV (a / 60)) = true := by rw [okApp_iff, digV_len]; omega
  rw [e1, e2, digV_eq _ (by omega), k1, selT, iadd64 (by omega)]
  by_cases h0 : a = 0
  · rw [if_pos h0, sel_neg (ilt_f (by omega))]; rfl
  · rw [if_neg h0, sel_pos (ilt_t (by omega))]; rfl
theorem w_round2 (ha : a < 60) (hx : xs.length ≤ 10) : fWritten_L0 F [] (n + 1 + 1) a xs 2 3600 60 1 K = K (.str (vbytes (if a = 0 then xs else lcat xs (digV a)))) := by
  rw [fWritten_L0_succ, sel_pos (by decide), sel_neg (by decide), sel_neg (by decide), sel_pos (by decide), sel_neg (by decide)]
  have e1 := w_q a 1 (by decide) (by omega)
  rw [show ((1 : Nat) : Int) = 1 from rfl, Nat.div_one] at e1
  have k1 : okApp xs (digV a) = true := by rw [okApp_iff, digV_len]; omega
  rw [e1, digV_eq _ (by omega), k1, selT, iadd64 (by omega)]
  by_cases h0 : a = 0
  · rw [if_pos h0, sel_neg (ilt_f (by omega)), fWritten_L0_succ, sel_neg (by decide)]
  · rw [if_neg h0, sel_pos (ilt_t (by omega)), fWritten_L0_succ, sel_neg (by decide)]
theorem w_all (ha : a ≤ 359999) (c : Int) : fWritten_L0 F [] 5 a [.int .u8 c] 0 3600 60 1 K = K (.str (UInt8.ofNat c.toNat :: writtenN a)) := by
  rw [w_round0 F 4 a _ K ha (by simp), w_round1 F 3 _ _ K (by omega) (by simp [lcat, digV]), w_round2 F 1 _ _ K (by omega) (by split <;> simp [lcat, digV])]
  have e1 : a % 3600 % 60 = a % 60 := by omega
  have e2 : a % 3600 / 60 = a / 60 % 60 := by omega
  rw [e1, e2]
  unfold writtenN
  congr 2
  by_cases h1 : a % 3600 = 0
  · have h2 : a % 60 = 0 := by omega
    rw [if_pos h1, if_pos h1, if_pos h2, vb_app, vb_dig, List.append_nil]; rfl
  · rw [if_neg h1, if_neg h1]
    by_cases h2 : a % 60 = 0
    · rw [if_pos h2, if_pos h2, vb_app, vb_app, vb_dig, vb_dig, List.append_nil]; simp [vbytes, asInt, acell]
    · rw [if_neg h2, if_neg h2, vb_app, vb_app, vb_app, vb_dig, vb_dig, vb_dig]; simp [vbytes, asInt, acell]
end
theorem fwrittenS_ok (n : Int) (h : -359999 ≤ n ∧ n ≤ 359999) : Contract fE 59 [.int .i64 n] (.str (wrT n)) := by
  refine contract_of_body fE_ok fS2_ok 5 2 ?_
  rw [fWritten_top]
  unfold wrT Fmt.written
  by_cases hn : n < 0
  · obtain ⟨a, ha, rfl⟩ : ∃ a : Nat, a ≤ 359999 ∧ n = -(a : Int) := ⟨n.natAbs, by omega, by omega⟩
    have e : isub .i64 0 (-(a : Int)) = (a : Int) := by rw [isub64 (by omega)]; omega
    rw [sel_pos (ilt_t hn), sel_pos (by decide), e, if_pos hn, show (-(a : Int)).natAbs = a by omega]
    exact w_all 5 a some ha 45
  · obtain ⟨a, rfl⟩ : ∃ a : Nat, n = a := ⟨n.toNat, by omega⟩
    rw [sel_neg (ilt_f (Int.not_lt.1 hn)), if_neg hn, Int.natAbs_natCast]
    exact w_all 5 a some (by omega) 43
theorem writtenS_ok (n : Int) (hc : band (ile (-359999) n) (ile n 359999) = true) : Contract fE 59 [.int .i64 n] (.str (wrT n)) := fwrittenS_ok n (by rw [band_iff, ile_iff, ile_iff] at hc; exact hc)
theorem fS3_ok : SOk fE fS3 := by
  unfold fS3
  refine SOk.cons (fun args r h => ?_) (SOk.cons (fun args r h => ?_) (fSl_ok))
  · unfold fCutS at h
    split at h
    · simp only [Option.some.injEq, Prod.mk.injEq] at h
      obtain ⟨hc, rfl⟩ := h
      exact fCutS_ok _ hc
    · cases h
  · unfold writtenS at h
    split at h
    · simp only [Option.some.injEq, Prod.mk.injEq] at h
      obtain ⟨hc, rfl⟩ := h
      exact writtenS_ok _ hc
    · cases h
theorem checkS_ok (s : List UInt8) (hc : ile (slen s) 1000 = true) : Contract fE 13 [.str s] (.int .i64 (ckW s)) := by
  refine contract_of_body fE_ok fS3_ok 5 2 ?_
  rw [fCheck_top, hc]
  unfold ckW
  by_cases h : 16 < s.length
  · rw [sel_pos (ilt_t (by rw [slen_nat]; omega)), if_pos h]
  · rw [sel_neg (ilt_f (by rw [slen_nat]; omega)), if_neg h, selT]
    by_cases h2 : fkK s = 0
    · rw [if_pos h2, sel_pos (ieq_t h2)]
    · rw [if_neg h2, sel_neg (ieq_f h2)]
theorem letterS_ok (s : List UInt8) (hc : ile (slen s) 1000 = true) : Contract fE 67 [.str s] (.tup [.str (leT s), .int .i64 (leW s)]) := by
  refine contract_of_body fE_ok fS2_ok 5 2 ?_
  rw [fLetter_top, hc]
  unfold leT leW leP
  simp only [selT, sel_if, ilt_iff, seq_iff, slen_nat, bnot_iff]
  by_cases h1 : s = [45]
  · rw [if_pos h1, if_pos h1]
  · rw [if_neg h1, if_neg h1]
    by_cases h2 : 6 < s.length
    · rw [if_pos (by omega), if_pos h2]
    · rw [if_neg (by omega), if_neg h2]
      by_cases h3 : s = []
      · rw [if_pos h3, if_pos (.inl h3)]
      · rw [if_neg h3]
        cases h4 : Fmt.wordB s with
        | true => simp [h3]
        | false => simp
theorem fS4_ok : SOk fE fS4 := by
  unfold fS4
  refine SOk.cons (fun args r h => ?_) (SOk.cons (fun args r h => ?_) (fS3_ok))
  · unfold checkS at h
    split at h
    · simp only [Option.some.injEq, Prod.mk.injEq] at h
      obtain ⟨hc, rfl⟩ := h
      exact checkS_ok _ hc
    · cases h
  · unfold letterS at h
    split at h
    · simp only [Option.some.injEq, Prod.mk.injEq] at h
      obtain ⟨hc, rfl⟩ := h
      exact letterS_ok _ hc
    · cases h
end Nt.Ev.YtheojhajckcdlaaGreatDoor

namespace Nt.Fmt
end Nt.Fmt
namespace Nt.Ev.YtheojhajckcdlaaGreatDoor
open Go Go.RowKit Nt Nt.Num Nt.Fmt Go.Proofs.YtheojhajckcdlaaGreatDoor
variable [MLen]
def abP (s : List UInt8) (n m : Int) (t : List UInt8) : List UInt8 × Int :=
  if ckW s ≠ 0 then ([], ckW s) else if n < -359999 ∨ 359999 < n then ([], 1) else
  if fkK s = 2 then (fkA s ++ t ++ fkZ s, 0) else if fkK s = 3 then (wrT n, 0) else if fkK s = 4 ∧ m ≠ 0 then (fkZ s, 0) else (fkA s, 0)
def abT (s : List UInt8) (n m : Int) (t : List UInt8) : List UInt8 := (abP s n m t).1
def abW (s : List UInt8) (n m : Int) (t : List UInt8) : Int := (abP s n m t).2
def ltP (s : List UInt8) : List UInt8 × Int := if s = [] then ([45], 0) else if leW s ≠ 0 ∨ leT s ≠ s then ([], 4) else (s, 0)
def ltT (s : List UInt8) : List UInt8 := (ltP s).1
def ltW (s : List UInt8) : Int := (ltP s).2
theorem ck_len {s : List UInt8} (h : ckW s = 0) : s.length ≤ 16 ∧ fkK s ≠ 0 := by
  unfold ckW at h
  by_cases h1 : 16 < s.length
  · rw [if_pos h1] at h; cases h
  · rw [if_neg h1] at h
    by_cases h2 : fkK s = 0
    · rw [if_pos h2] at h; cases h
    · exact ⟨by omega, h2⟩
theorem cut_bd (s : List UInt8) : (fkA s).length ≤ s.length ∧ (fkZ s).length ≤ s.length := by
  unfold fkA fkZ
  rw [← kindP_eq]
  unfold kindP
  have h1 := cut_len s [37, 115]
  have h2 := cut_len s [47]
  (repeat' split) <;> first | exact h1 | exact h2 | simp
theorem fAbbr_ev (s : List UInt8) (n m : Int) (t : List UInt8) (hs : s.length ≤ 1000) (ht : t.length ≤ 1000) : Contract fE 35 [.str s, .int .i64 n, .int .i64 m, .str t] (.tup [.str (abT s n m t), .int .i64 (abW s n m t)]) := by
  refine contract_of_body fE_ok fS4_ok 5 2 ?_
  have hc : ile (slen s) 1000 = true := ile_t (by rw [slen_nat]; omega)
  have hb := cut_bd s
  have k1 : okCat (fkA s) t = true := by rw [okCat_iff]; omega
  have k2 : okCat (scat (fkA s) t) (fkZ s) = true := by rw [okCat_iff]; simp only [scat, List.length_append]; omega
  rw [fAbbr_top, hc, k1, k2]
  simp only [selT]
  unfold abT abW abP
  by_cases h0 : ckW s = 0
  · rw [show bnot (ieq (ckW s) 0) = false by rw [ieq_t h0]; rfl, selF, if_neg (by simpa using h0)]
    by_cases h1 : n < -359999
    · rw [sel_pos (ilt_t h1), if_pos (.inl h1)]
    · rw [sel_neg (ilt_f (by omega))]
      by_cases h2 : 359999 < n
      · rw [sel_pos (ilt_t h2), if_pos (.inr h2)]
      · rw [sel_neg (ilt_f (by omega)), if_neg (by omega)]
        have h3 : band (ile (-359999) n) (ile n 359999) = true := by rw [band_iff, ile_iff, ile_iff]; omega
        rw [h3]
        simp only [selT]
        by_cases j2 : fkK s = 2
        · rw [sel_pos (ieq_t j2), if_pos j2]; rfl
        · rw [sel_neg (ieq_f j2), if_neg j2]
          by_cases j3 : fkK s = 3
          · rw [sel_pos (ieq_t j3), if_pos j3]
          · rw [sel_neg (ieq_f j3), if_neg j3]
            by_cases j4 : fkK s = 4
            · rw [sel_pos (ieq_t j4)]
              by_cases j5 : m = 0
              · rw [show bnot (ieq m 0) = false by rw [ieq_t j5]; rfl, selF, if_neg (fun h => h.2 j5)]
              · rw [show bnot (ieq m 0) = true by rw [ieq_f j5]; rfl, selT, if_pos ⟨j4, j5⟩]
            · rw [sel_neg (ieq_f j4), if_neg (fun h => j4 h.1)]
  · rw [show bnot (ieq (ckW s) 0) = true by rw [ieq_f h0]; rfl, selT, if_pos h0]
theorem fLText_ev (s : List UInt8) (hs : s.length ≤ 1000) : Contract fE 42 [.str s] (.tup [.str (ltT s), .int .i64 (ltW s)]) := by
  refine contract_of_body fE_ok fS4_ok 5 2 ?_
  have hc : ile (slen s) 1000 = true := ile_t (by rw [slen_nat]; omega)
  rw [fLText_top, hc, selT]
  unfold ltT ltW ltP
  simp only [sel_if, seq_iff, bnot_iff, ieq_iff]
  by_cases h1 : s = []
  · rw [if_pos h1, if_pos h1]
  · rw [if_neg h1, if_neg h1]
    by_cases h2 : leW s = 0
    · rw [if_neg (by simpa using h2)]
      by_cases h3 : leT s = s
      · rw [if_neg (by simpa using h3), if_neg (by simp [h2, h3])]
      · rw [if_pos h3, if_pos (.inr h3)]
    · rw [if_pos h2, if_pos (.inl h2)]
end Nt.Ev.YtheojhajckcdlaaGreatDoor
