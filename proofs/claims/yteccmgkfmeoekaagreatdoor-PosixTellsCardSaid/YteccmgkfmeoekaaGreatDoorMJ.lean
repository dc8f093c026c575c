/-
  The plain law of formats: what is a name, where it is cut, which kind it is. Formats, further: how a difference is written; what the document's check asks. Format: equations of functions, as the evaluator prints them. Formats: what the program's functions and the document's answer. Formats: what a time is called, both sides.
-/
import Derived.Lib.IndexMore
import Derived.Test.YteccmgkfmeoekaaGreatDoorME
namespace Nt.Fmt
open Go
def letB (c : UInt8) : Bool := decide ((65 ≤ c.toNat ∧ c.toNat ≤ 90) ∨ (97 ≤ c.toNat ∧ c.toNat ≤ 122) ∨ (48 ≤ c.toNat ∧ c.toNat ≤ 57) ∨ c.toNat = 43 ∨ c.toNat = 45)
def wordB (s : List UInt8) : Bool := s.all letB
theorem word_mem {w : List UInt8} (h : wordB w = true) {c : UInt8} (hc : c ∈ w) : letB c = true := List.all_eq_true.1 h c hc
theorem word_app (a b : List UInt8) : wordB (a ++ b) = (wordB a && wordB b) := by unfold wordB; rw [List.all_append]
def cutA (s c : List UInt8) : List UInt8 := (Lib.cut s c).1
def cutZ (s c : List UInt8) : List UInt8 := (Lib.cut s c).2.1
def cutIs (s c : List UInt8) : Bool := (Lib.cut s c).2.2
def slash (s : List UInt8) : Prop := cutIs s [47] = true ∧ cutA s [47] ≠ [] ∧ cutZ s [47] ≠ [] ∧ wordB (cutA s [47]) = true ∧ wordB (cutZ s [47]) = true
def perc (s : List UInt8) : Prop := cutIs s [37, 115] = true ∧ wordB (cutA s [37, 115]) = true ∧ wordB (cutZ s [37, 115]) = true
instance (s) : Decidable (slash s) := inferInstanceAs (Decidable (_ ∧ _))
instance (s) : Decidable (perc s) := inferInstanceAs (Decidable (_ ∧ _))
end Nt.Fmt

namespace Nt.Fmt
open Go
def dig2 (k : Nat) : List UInt8 := [UInt8.ofNat (48 + k / 10), UInt8.ofNat (48 + k % 10)]
def writtenN (k : Nat) : List UInt8 := dig2 (k / 3600) ++ (if k % 3600 = 0 then [] else dig2 (k / 60 % 60) ++ (if k % 60 = 0 then [] else dig2 (k % 60)))
def written (n : Int) : List UInt8 := (if n < 0 then 45 else 43) :: writtenN n.natAbs
end Nt.Fmt

set_option linter.unusedVariables false
set_option linter.unusedSimpArgs false
set_option linter.unusedSectionVars false
namespace Nt.Ev.YteccmgkfmeoekaaGreatDoor
open Go Nt.Num Go.Proofs.YteccmgkfmeoekaaGreatDoor
variable [MLen]
noncomputable def fE : Env := ⟨Go.Proofs.Tryz.prog, fun g => bif g == 3 then some (.rptr [.int .i64] (.int .i64 MLen.val) 0) else none⟩
def asciiB (l : List UInt8) : Bool := l.all fun c => decide (c.toNat < 128)
def trimC (s c : List UInt8) : List UInt8 := Lib.trimS s c
def cutA (s c : List UInt8) : List UInt8 := (Lib.cut s c).1
def cutZ (s c : List UInt8) : List UInt8 := (Lib.cut s c).2.1
def cutIs (s c : List UInt8) : Bool := (Lib.cut s c).2.2
noncomputable def fTextS : FSpec := fun a => match a with | [.int .i64 m] => some (band (ile (-9223372036854775808) m) (ile m 9223372036854775807), .str (text m)) | _ => none
noncomputable def trimS1 : FSpec := fun a => match a with | [.str s, .str c] => some (band (ile (slen s) 1000) (band (ile (slen c) 1000) (asciiB c)), .str (trimC s c)) | _ => none
noncomputable def fS : List (Nat × FSpec) := (95, fTextS) :: (156, trimS1) :: []
open Nt.Fmt
noncomputable def fWordS : FSpec := fun a => match a with | [.str s] => some (ile (slen s) 1000, .bool (wordB s)) | _ => none
noncomputable def fS2 : List (Nat × FSpec) := (192, fWordS) :: fS
def wrT (n : Int) : List UInt8 := Fmt.written n
def letCf (c : Int) : Bool := decide ((65 ≤ c ∧ c ≤ 90) ∨ (97 ≤ c ∧ c ≤ 122) ∨ (48 ≤ c ∧ c ≤ 57) ∨ c = 43 ∨ c = 45)
noncomputable def letterCS : FSpec := fun a => match a with | [.int .u8 c] => some (true, .bool (letCf c)) | _ => none
noncomputable def fSl : List (Nat × FSpec) := (205, letterCS) :: fS2
noncomputable def fS3 : List (Nat × FSpec) := fSl
def leP (s : List UInt8) : List UInt8 × Int := if s = [45] then ([], 0) else if 6 < s.length then ([], 9) else if s = [] ∨ wordB s = false then ([], 4) else (s, 0)
def leT (s : List UInt8) : List UInt8 := (leP s).1
def leW (s : List UInt8) : Int := (leP s).2
noncomputable def letterS : FSpec := fun a => match a with | [.str s] => some (ile (slen s) 1000, .tup [.str (leT s), .int .i64 (leW s)]) | _ => none
noncomputable def fS4 : List (Nat × FSpec) := (168, letterS) :: (193, letterS) :: fS3
set_option maxRecDepth 100000 in
theorem fWord_top (F : Nat) (s : List UInt8) (K : V → Option V) :
 evBd fE (evFn fE fS F 2) F 192 [(V.str s)] K =
 sel (band (ile (slen s) 1000) (band (ile (slen [65, 66, 67, 68, 69, 70, 71, 72, 73, 74, 75, 76, 77, 78, 79, 80, 81, 82, 83, 84, 85, 86, 87, 88, 89, 90, 97, 98, 99, 100, 101, 102, 103, 104, 105, 106, 107, 108, 109, 110, 111, 112, 113, 114, 115, 116, 117, 118, 119, 120, 121, 122, 48, 49, 50, 51, 52, 53, 54, 55, 56, 57, 43, 45]) 1000) (asciiB [65, 66, 67, 68, 69, 70, 71, 72, 73, 74, 75, 76, 77, 78, 79, 80, 81, 82, 83, 84, 85, 86, 87, 88, 89, 90, 97, 98, 99, 100, 101, 102, 103, 104, 105, 106, 107, 108, 109, 110, 111, 112, 113, 114, 115, 116, 117, 118, 119, 120, 121, 122, 48, 49, 50, 51, 52, 53, 54, 55, 56, 57, 43, 45])))
 (K (V.bool (seq (trimC s [65, 66, 67, 68, 69, 70, 71, 72, 73, 74, 75, 76, 77, 78, 79, 80, 81, 82, 83, 84, 85, 86, 87, 88, 89, 90, 97, 98, 99, 100, 101, 102, 103, 104, 105, 106, 107, 108, 109, 110, 111, 112, 113, 114, 115, 116, 117, 118, 119, 120, 121, 122, 48, 49, 50, 51, 52, 53, 54, 55, 56, 57, 43, 45]) [])))
 (none) := by kernel_rfl
set_option maxRecDepth 100000 in
theorem fLetter_top (F : Nat) (s : List UInt8) (K : V → Option V) :
 evBd fE (evFn fE fS2 F 2) F 168 [(V.str s)] K =
 sel (seq s [45])
 (K (V.tup [(V.str []), (V.int .i64 0)]))
 (sel (ilt 6 (slen s))
 (K (V.tup [(V.str []), (V.int .i64 9)]))
 (sel (seq s [])
 (K (V.tup [(V.str []), (V.int .i64 4)]))
 (sel (ile (slen s) 1000)
 (sel (bnot (wordB s))
 (K (V.tup [(V.str []), (V.int .i64 4)]))
 (K (V.tup [(V.str s), (V.int .i64 0)])))
 (none)))) := by kernel_rfl
noncomputable def rLetter20_L0 (F : Nat) (ns : List Nat) (n : Nat) (x0 : List UInt8) (x2 : List UInt8) (x3 : Int) (x4 : Int) (K : V → Option V) : Option V :=
 loopAt fE fSl F 2 193 [1, 1, 1, 0, 1, 0] ns K n (mkSt 24 [(0, V.str x0), (2, V.str x2), (3, V.int .i64 x3), (4, V.int .i64 x4)] [])
set_option maxRecDepth 100000 in
theorem rLetter20_top (F : Nat) (s : List UInt8) (K : V → Option V) :
 evBd fE (evFn fE fSl F 2) F 193 [(V.str s)] K =
 sel (seq s [45])
 (K (V.tup [(V.str []), (V.int .i64 0)]))
 (sel (ilt 6 (slen s))
 (K (V.tup [(V.str []), (V.int .i64 9)]))
 (rLetter20_L0 F [] F s [] 0 0 K)) := by kernel_rfl
set_option maxRecDepth 100000 in
theorem rLetter20_L0_succ (F : Nat) (n : Nat) (x0 : List UInt8) (x2 : List UInt8) (x3 : Int) (x4 : Int) (K : V → Option V) :
 rLetter20_L0 F [] (n + 1) x0 x2 x3 x4 K =
 sel (ilt x4 (slen x0))
 (sel (band (ile 0 x4) (ilt x4 (slen x0)))
 (sel (bnot (letCf (sat x0 x4)))
 (K (V.tup [(V.str []), (V.int .i64 4)]))
 (rLetter20_L0 F [] n x0 x2 x3 (iadd .i64 x4 1) K))
 (none))
 (sel (seq x0 [])
 (K (V.tup [(V.str []), (V.int .i64 4)]))
 (K (V.tup [(V.str x0), (V.int .i64 0)]))) := by kernel_rfl
set_option maxRecDepth 100000 in
theorem rLetterC_top (F : Nat) (c : Int) (K : V → Option V) :
 evBd fE (evFn fE fS2 F 2) F 205 [(V.int .u8 c)] K =
 sel (ile 65 c)
 (sel (ile c 90)
 (K (V.bool true))
 (sel (ile 97 c)
 (sel (ile c 122)
 (K (V.bool true))
 (sel (ile 48 c)
 (sel (ile c 57)
 (K (V.bool true))
 (sel (ieq c 43)
 (K (V.bool true))
 (K (V.bool (ieq c 45)))))
 (sel (ieq c 43)
 (K (V.bool true))
 (K (V.bool (ieq c 45))))))
 (sel (ile 48 c)
 (sel (ile c 57)
 (K (V.bool true))
 (sel (ieq c 43)
 (K (V.bool true))
 (K (V.bool (ieq c 45)))))
 (sel (ieq c 43)
 (K (V.bool true))
 (K (V.bool (ieq c 45)))))))
 (sel (ile 97 c)
 (sel (ile c 122)
 (K (V.bool true))
 (sel (ile 48 c)
 (sel (ile c 57)
 (K (V.bool true))
 (sel (ieq c 43)
 (K (V.bool true))
 (K (V.bool (ieq c 45)))))
 (sel (ieq c 43)
 (K (V.bool true))
 (K (V.bool (ieq c 45))))))
 (sel (ile 48 c)
 (sel (ile c 57)
 (K (V.bool true))
 (sel (ieq c 43)
 (K (V.bool true))
 (K (V.bool (ieq c 45)))))
 (sel (ieq c 43)
 (K (V.bool true))
 (K (V.bool (ieq c 45)))))) := by kernel_rfl
set_option maxRecDepth 100000 in
theorem fLText_top (F : Nat) (s : List UInt8) (K : V → Option V) :
 evBd fE (evFn fE fS4 F 2) F 136 [(V.str s)] K =
 sel (seq s [])
 (K (V.tup [(V.str [45]), (V.int .i64 0)]))
 (sel (ile (slen s) 1000)
 (sel (bnot (ieq (leW s) 0))
 (K (V.tup [(V.str []), (V.int .i64 4)]))
 (sel (bnot (seq (leT s) s))
 (K (V.tup [(V.str []), (V.int .i64 4)]))
 (K (V.tup [(V.str s), (V.int .i64 0)]))))
 (none)) := by kernel_rfl
set_option maxRecDepth 100000 in
theorem rLText_top (F : Nat) (s : List UInt8) (K : V → Option V) :
 evBd fE (evFn fE fS4 F 2) F 174 [(V.str s)] K =
 sel (seq s [])
 (K (V.tup [(V.str [45]), (V.int .i64 0)]))
 (sel (ile (slen s) 1000)
 (sel (bnot (ieq (leW s) 0))
 (K (V.tup [(V.str []), (V.int .i64 4)]))
 (sel (bnot (seq (leT s) s))
 (K (V.tup [(V.str []), (V.int .i64 4)]))
 (K (V.tup [(V.str (leT s)), (V.int .i64 0)]))))
 (none)) := by kernel_rfl
end Nt.Ev.YteccmgkfmeoekaaGreatDoor

set_option linter.unusedVariables false
set_option linter.unusedSimpArgs false
set_option linter.unusedSectionVars false
namespace Nt.Ev.YteccmgkfmeoekaaGreatDoor
open Go Go.RowKit Nt Nt.Num Nt.Fmt Go.Proofs.YteccmgkfmeoekaaGreatDoor
variable [MLen]
theorem fE_ok : EOk fE := ⟨by kernel_rfl, by kernel_rfl⟩
theorem toF {f : Nat} {args : List V} {r : V} (h : Contract nE f args r) : Contract fE f args r := Contract.env (E := nE) rfl (fun n v h => by cases h) h
theorem len_f {s : List UInt8} (h : ile (slen s) 1000 = true) : s.length ≤ 1000 := by rw [ile_iff, slen_nat] at h; omega
theorem fits_f {m : Int} (h : band (ile (-9223372036854775808) m) (ile m 9223372036854775807) = true) : Fits m := by rw [band_iff, ile_iff, ile_iff] at h; exact h
theorem fTextS_ok (m : Int) (hc : band (ile (-9223372036854775808) m) (ile m 9223372036854775807) = true) : Contract fE 95 [.int .i64 m] (.str (text m)) := toF (rText_ev m (fits_f hc))
theorem trimS1_ok (s c : List UInt8) (hc : band (ile (slen s) 1000) (band (ile (slen c) 1000) (asciiB c)) = true) : Contract fE 156 [.str s, .str c] (.str (trimC s c)) := by
  obtain ⟨h1, h2⟩ := band_true hc
  obtain ⟨h2, h3⟩ := band_true h2
  have h1 := len_f h1
  have h2 := len_f h2
  refine contract_old fun G w vs hG hg hp => ?_
  obtain ⟨x, y, rfl, hx, hy⟩ := PW_two hp
  unfold rep at hx hy
  subst hx; subst hy
  refine (Go.Proofs.Tryz.strings_Trim ⟨s.toArray⟩ ⟨c.toArray⟩ w (show s.toArray.size ≤ _ by simp; omega) (show c.toArray.size < _ by simp; omega) (fun j b hb => ?_)).mono ?_
  · have h3 : (c.all fun c => decide (c.toNat < 128)) = true := h3
    have := List.all_eq_true.1 h3 b (List.mem_of_getElem? hb)
    exact of_decide_eq_true this
  · rintro e w' ⟨rfl, hb⟩
    exact ⟨_, rfl, hb, res_str _⟩
theorem fS_ok : SOk fE fS := by
  unfold fS
  refine SOk.cons (fun args r h => ?_) (SOk.cons (fun args r h => ?_) (SOk.nil))
  · unfold fTextS at h
    split at h
    · simp only [Option.some.injEq, Prod.mk.injEq] at h
      obtain ⟨hc, rfl⟩ := h
      exact fTextS_ok _ hc
    · cases h
  · unfold trimS1 at h
    split at h
    · simp only [Option.some.injEq, Prod.mk.injEq] at h
      obtain ⟨hc, rfl⟩ := h
      exact trimS1_ok _ _ hc
    · cases h
def lettersF : List UInt8 := [65, 66, 67, 68, 69, 70, 71, 72, 73, 74, 75, 76, 77, 78, 79, 80, 81, 82, 83, 84, 85, 86, 87, 88, 89, 90, 97, 98, 99, 100, 101, 102, 103, 104, 105, 106, 107, 108, 109, 110, 111, 112, 113, 114, 115, 116, 117, 118, 119, 120, 121, 122, 48, 49, 50, 51, 52, 53, 54, 55, 56, 57, 43, 45]
theorem letters_let (c : UInt8) : lettersF.contains c = letB c := by
  have h : ∀ n : Fin 256, lettersF.contains (UInt8.ofNat n) = letB (UInt8.ofNat n) := by decide +kernel
  have := h ⟨c.toNat, c.toNat_lt⟩
  simpa using this
theorem drop_nil (p : UInt8 → Bool) : ∀ l : List UInt8, l.dropWhile p = [] ↔ ∀ x ∈ l, p x = true
  | [] => by simp
  | x :: l => by
    rw [List.dropWhile_cons]
    cases h : p x with
    | true => simp [h, drop_nil p l]
    | false => simp [h]
theorem take_all (p : UInt8 → Bool) : ∀ (l : List UInt8) (x : UInt8), x ∈ l.takeWhile p → p x = true
  | [], _, h => by cases h
  | y :: l, x, h => by
    rw [List.takeWhile_cons] at h
    cases hy : p y with
    | true =>
      rw [hy, if_pos rfl, List.mem_cons] at h
      rcases h with rfl | h
      · exact hy
      · exact take_all p l x h
    | false => rw [hy] at h; cases h
theorem trim_word (s : List UInt8) : seq (trimC s lettersF) [] = wordB s := by
  unfold seq trimC Lib.trimS Lib.trimLeftS Lib.trimRightS
  simp only [letters_let]
  rw [Bool.eq_iff_iff, beq_iff_eq, drop_nil]
  unfold wordB
  rw [List.all_eq_true]
  constructor
  · intro h x hx
    have hx : x ∈ s.reverse := by simpa using hx
    rw [← List.takeWhile_append_dropWhile (p := fun x => letB x) (l := s.reverse), List.mem_append] at hx
    rcases hx with hx | hx
    · exact take_all _ _ _ hx
    · exact h x (by simpa using hx)
  · intro h x hx
    rw [List.mem_reverse] at hx
    have := (List.dropWhile_sublist (fun x => letB x)).subset hx
    exact h x (by simpa using this)
theorem fWordS_ok (s : List UInt8) (hc : ile (slen s) 1000 = true) : Contract fE 192 [.str s] (.bool (wordB s)) := by
  refine contract_of_body fE_ok fS_ok 5 2 ?_
  rw [fWord_top]
  have h2 := trim_word s
  unfold lettersF at h2
  rw [h2, hc, sel_pos (by decide)]
theorem fS2_ok : SOk fE fS2 := by
  unfold fS2
  refine SOk.cons (fun args r h => ?_) (fS_ok)
  · unfold fWordS at h
    split at h
    · simp only [Option.some.injEq, Prod.mk.injEq] at h
      obtain ⟨hc, rfl⟩ := h
      exact fWordS_ok _ hc
    · cases h
theorem selT (x y : Option V) : sel true x y = x := rfl
theorem selF (x y : Option V) : sel false x y = y := rfl
theorem sat_at (s : List UInt8) (i : Nat) (h : i < s.length) : sat s (i : Int) = (s[i].toNat : Int) := by
  rw [sat_nat, List.getD_eq_getElem?_getD, List.getElem?_eq_getElem h]; rfl
theorem letC_b (c : UInt8) : letCf (c.toNat : Int) = letB c := by
  unfold letCf letB
  congr 1
  simp only [eq_iff_iff]
  omega
theorem letterCS_ok (c : Int) (hc : true = true) : Contract fE 205 [.int .u8 c] (.bool (letCf c)) := by
  refine contract_of_body fE_ok fS2_ok 5 2 ?_
  rw [rLetterC_top]
  simp only [sel_if, ile_iff, ieq_iff]
  unfold letCf
  repeat' split
  all_goals first | (exfalso; omega) | (rw [decide_eq_true (by omega)]; done) | (congr 2; unfold ieq; rw [Bool.eq_iff_iff]; simp; omega)
theorem fSl_ok : SOk fE fSl := by
  unfold fSl
  refine SOk.cons (fun args r h => ?_) (fS2_ok)
  · unfold letterCS at h
    split at h
    · simp only [Option.some.injEq, Prod.mk.injEq] at h
      obtain ⟨hc, rfl⟩ := h
      exact letterCS_ok _ rfl
    · cases h
section
variable (F n : Nat) (a : Nat) (xs : List V) (hx : xs.length ≤ 10) (K : V → Option V)
end
theorem fS3_ok : SOk fE fS3 := by
  unfold fS3
  refine fSl_ok
theorem letterS_ok (s : List UInt8) (hc : ile (slen s) 1000 = true) : Contract fE 168 [.str s] (.tup [.str (leT s), .int .i64 (leW s)]) := by
  refine contract_of_body fE_ok fS2_ok 5 2 ?_
  rw [fLetter_top, hc]
  unfold leT leW leP
  simp only [selT, sel_if, ilt_iff, seq_iff, slen_nat, bnot_iff]
  by_cases h1 : s = [45]
  · rw [if_pos h1, if_pos h1]
  · rw [if_neg h1, if_neg h1]
    by_cases h2 : 6 < s.length
    · rw [if_pos (by omega), if_pos h2]
    · rw [if_neg (by omega), if_neg h2]
      by_cases h3 : s = []
      · rw [if_pos h3, if_pos (.inl h3)]
      · rw [if_neg h3]
        cases h4 : Fmt.wordB s with
        | true => simp [h3]
        | false => simp
theorem rletter_loop (F : Nat) (s : List UInt8) (hs : s.length ≤ 6) : ∀ (n i : Nat), i ≤ s.length → s.length ≤ i + n → wordB (s.take i) = true →
    rLetter20_L0 F [] (n + 1) s [] 0 i some = some (if s = [] ∨ wordB s = false then .tup [.str [], .int .i64 4] else .tup [.str s, .int .i64 0]) := by
  have fin : ∀ i n : Nat, s.length ≤ i → wordB (s.take i) = true → rLetter20_L0 F [] (n + 1) s [] 0 i some = some (if s = [] ∨ wordB s = false then .tup [.str [], .int .i64 4] else .tup [.str s, .int .i64 0]) := by
    intro i n h1 h3
    rw [List.take_of_length_le h1] at h3
    rw [rLetter20_L0_succ, sel_neg (ilt_f (by rw [slen_nat]; omega)), h3]
    simp only [sel_if, seq_iff]
    by_cases h : s = []
    · rw [if_pos h, if_pos (.inl h)]
    · rw [if_neg h, if_neg (by simp [h])]
  intro n
  induction n with
  | zero =>
    intro i h1 h2 h3
    exact fin i 0 (by omega) h3
  | succ n ih =>
    intro i h1 h2 h3
    by_cases hi : i < s.length
    · have ht : s.take (i + 1) = s.take i ++ [s[i]] := by rw [List.take_add_one, List.getElem?_eq_getElem hi]; rfl
      have e1 : ((i : Int) + 1) = ((i + 1 : Nat) : Int) := by omega
      rw [rLetter20_L0_succ, sel_pos (ilt_t (by rw [slen_nat]; omega)), sel_pos (by rw [band_iff, ile_iff, ilt_iff, slen_nat]; omega), sat_at s i hi, letC_b, iadd64 (by omega), e1]
      cases c1 : letB s[i] with
      | true =>
        rw [show bnot true = false from rfl, selF]
        refine ih (i + 1) (by omega) (by omega) ?_
        rw [ht, word_app, h3]
        unfold wordB
        simp [c1]
      | false =>
        rw [show bnot false = true from rfl, selT, if_pos]
        right
        cases hw : wordB s with
        | false => rfl
        | true => have := word_mem hw (List.getElem_mem hi); rw [c1] at this; cases this
    · exact fin i (n + 1) (by omega) h3
theorem letterS_ok_noontideref20_Letter (s : List UInt8) (hc : ile (slen s) 1000 = true) : Contract fE 193 [.str s] (.tup [.str (leT s), .int .i64 (leW s)]) := by
  refine contract_of_body fE_ok fSl_ok 7 2 ?_
  rw [rLetter20_top]
  unfold leT leW leP
  simp only [sel_if, ilt_iff, seq_iff, slen_nat]
  by_cases h1 : s = [45]
  · rw [if_pos h1, if_pos h1]
  · rw [if_neg h1, if_neg h1]
    by_cases h2 : 6 < s.length
    · rw [if_pos (by omega), if_pos h2]
    · rw [if_neg (by omega), if_neg h2]
      have := rletter_loop 7 s (by omega) 6 0 (by omega) (by omega) rfl
      rw [show ((0 : Nat) : Int) = 0 from rfl] at this
      rw [this]
      split <;> rfl
theorem fS4_ok : SOk fE fS4 := by
  unfold fS4
  refine SOk.cons (fun args r h => ?_) (SOk.cons (fun args r h => ?_) (fS3_ok))
  · unfold letterS at h
    split at h
    · simp only [Option.some.injEq, Prod.mk.injEq] at h
      obtain ⟨hc, rfl⟩ := h
      exact letterS_ok _ hc
    · cases h
  · unfold letterS at h
    split at h
    · simp only [Option.some.injEq, Prod.mk.injEq] at h
      obtain ⟨hc, rfl⟩ := h
      exact letterS_ok_noontideref20_Letter _ hc
    · cases h
end Nt.Ev.YteccmgkfmeoekaaGreatDoor

set_option linter.unusedVariables false
set_option linter.unusedSimpArgs false
set_option linter.unusedSectionVars false
namespace Nt.Fmt
end Nt.Fmt
namespace Nt.Ev.YteccmgkfmeoekaaGreatDoor
open Go Go.RowKit Nt Nt.Num Nt.Fmt Go.Proofs.YteccmgkfmeoekaaGreatDoor
variable [MLen]
def ltP (s : List UInt8) : List UInt8 × Int := if s = [] then ([45], 0) else if leW s ≠ 0 ∨ leT s ≠ s then ([], 4) else (s, 0)
def ltT (s : List UInt8) : List UInt8 := (ltP s).1
def ltW (s : List UInt8) : Int := (ltP s).2
theorem fLText_ev (s : List UInt8) (hs : s.length ≤ 1000) : Contract fE 136 [.str s] (.tup [.str (ltT s), .int .i64 (ltW s)]) := by
  refine contract_of_body fE_ok fS4_ok 5 2 ?_
  have hc : ile (slen s) 1000 = true := ile_t (by rw [slen_nat]; omega)
  rw [fLText_top, hc, selT]
  unfold ltT ltW ltP
  simp only [sel_if, seq_iff, bnot_iff, ieq_iff]
  by_cases h1 : s = []
  · rw [if_pos h1, if_pos h1]
  · rw [if_neg h1, if_neg h1]
    by_cases h2 : leW s = 0
    · rw [if_neg (by simpa using h2)]
      by_cases h3 : leT s = s
      · rw [if_neg (by simpa using h3), if_neg (by simp [h2, h3])]
      · rw [if_pos h3, if_pos (.inr h3)]
    · rw [if_pos h2, if_pos (.inl h2)]
theorem rLText_ev (s : List UInt8) (hs : s.length ≤ 1000) : Contract fE 174 [.str s] (.tup [.str (ltT s), .int .i64 (ltW s)]) := by
  refine contract_of_body fE_ok fS4_ok 5 2 ?_
  have hc : ile (slen s) 1000 = true := ile_t (by rw [slen_nat]; omega)
  rw [rLText_top, hc, selT]
  unfold ltT ltW ltP
  simp only [sel_if, seq_iff, bnot_iff, ieq_iff]
  by_cases h1 : s = []
  · rw [if_pos h1, if_pos h1]
  · rw [if_neg h1, if_neg h1]
    by_cases h2 : leW s = 0
    · rw [if_neg (by simpa using h2)]
      by_cases h3 : leT s = s
      · rw [if_neg (by simpa using h3), if_neg (by simp [h2, h3])]
        simp only [h3]
      · rw [if_pos h3, if_pos (.inr h3)]
    · rw [if_pos h2, if_pos (.inl h2)]
end Nt.Ev.YteccmgkfmeoekaaGreatDoor
