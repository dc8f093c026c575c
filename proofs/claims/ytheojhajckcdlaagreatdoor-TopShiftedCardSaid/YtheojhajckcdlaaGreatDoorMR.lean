/-
  Name: equations of functions, as the evaluator prints them. Names: both sides. A map that a call makes, with strings as keys: string elements read as a function to Option, bool elements as a set.
-/
import Derived.Test.YtheojhajckcdlaaGreatDoorMC
import Derived.Test.YtheojhajckcdlaaGreatDoorMS
import Derived.Maps.OwnSet
import Derived.Maps.OwnOps
import Derived.Maps.StringElems
import Derived.StringKeys
set_option linter.unusedVariables false
set_option linter.unusedSimpArgs false
set_option linter.unusedSectionVars false
namespace Nt.Ev.YtheojhajckcdlaaGreatDoor.Nm
set_option maxRecDepth 100000
open Go Nt.Num Go.Proofs.YtheojhajckcdlaaGreatDoor
def idxN (s : List UInt8) (c : Int) : Int := Go.Lib.indexByte s c.toNat.toUInt8
def fstC (c : UInt8) : Bool := (decide (65 ≤ c.toNat) && decide (c.toNat ≤ 90)) || (decide (97 ≤ c.toNat) && decide (c.toNat ≤ 122)) || c == 95
def othC (c : UInt8) : Bool := (decide (48 ≤ c.toNat) && decide (c.toNat ≤ 57)) || c == 45 || c == 43 || c == 47 || c == 46
def nmC (k : Nat) (c : UInt8) : Bool := fstC c || (decide (0 < k) && othC c)
def nmF : Nat → List UInt8 → Bool | _, [] => true | k, c :: t => nmC k c && nmF (k + 1) t
def nmI (s : List UInt8) : Int := if 64 < s.length then 9 else if nmF 0 s = true ∧ s ≠ [] then 0 else 10
noncomputable def nByS : FSpec := fun a => match a with | [.str s, .int .u8 c] => some (true, .int .i64 (idxN s c)) | _ => none
noncomputable def nS0 : List (Nat × FSpec) := (28, nByS) :: []
noncomputable def nName_L0 (F : Nat) (ns : List Nat) (n : Nat) (x0 : List UInt8) (x2 : Int) (x9 : List V) (x10 : Int) (x11 : Int) (K : V → Option V) : Option V :=
 loopAt oE nS0 F 2 15 [1, 1, 0, 1, 0] ns K n (mkSt 48 [(0, V.str x0), (2, V.int .i64 x2), (9, V.sl 5 [(Kd.int .u8)] none x9), (10, V.int .i64 x10), (11, V.int .i64 x11)] [])
theorem nName_top (F : Nat) (s : List UInt8) (K : V → Option V) :
 evBd oE (evFn oE nS0 F 2) F 15 [(V.str s)] K =
 sel (ilt 64 (slen s))
 (K (V.int .i64 9))
 (sel (okStr s)
 (nName_L0 F [] F s 0 (bytesV s) (llen (bytesV s)) 0 K)
 (none)) := by kernel_rfl
theorem nName_L0_succ (F : Nat) (n : Nat) (x0 : List UInt8) (x2 : Int) (x9 : List V) (x10 : Int) (x11 : Int) (K : V → Option V) :
 nName_L0 F [] (n + 1) x0 x2 x9 x10 x11 K =
 sel (ilt x11 x10)
 (sel (band (ile 0 x11) (ilt x11 (llen x9)))
 (sel (ile 97 (ibits .or .u8 (asInt (acell (lget x9 x11) 0)) 32))
 (sel (ile (ibits .or .u8 (asInt (acell (lget x9 x11) 0)) 32) 122)
 (nName_L0 F [] n x0 x2 x9 x10 (iadd .i64 x11 1) K)
 (sel (ieq (asInt (acell (lget x9 x11) 0)) 95)
 (nName_L0 F [] n x0 x2 x9 x10 (iadd .i64 x11 1) K)
 (sel (ilt 0 x11)
 (sel (ile 48 (asInt (acell (lget x9 x11) 0)))
 (sel (ile (asInt (acell (lget x9 x11) 0)) 57)
 (nName_L0 F [] n x0 x2 x9 x10 (iadd .i64 x11 1) K)
 (sel (ile 0 (idxN [45, 43, 47, 46] (asInt (acell (lget x9 x11) 0))))
 (nName_L0 F [] n x0 x2 x9 x10 (iadd .i64 x11 1) K)
 (K (V.int .i64 10))))
 (sel (ile 0 (idxN [45, 43, 47, 46] (asInt (acell (lget x9 x11) 0))))
 (nName_L0 F [] n x0 x2 x9 x10 (iadd .i64 x11 1) K)
 (K (V.int .i64 10))))
 (K (V.int .i64 10)))))
 (sel (ieq (asInt (acell (lget x9 x11) 0)) 95)
 (nName_L0 F [] n x0 x2 x9 x10 (iadd .i64 x11 1) K)
 (sel (ilt 0 x11)
 (sel (ile 48 (asInt (acell (lget x9 x11) 0)))
 (sel (ile (asInt (acell (lget x9 x11) 0)) 57)
 (nName_L0 F [] n x0 x2 x9 x10 (iadd .i64 x11 1) K)
 (sel (ile 0 (idxN [45, 43, 47, 46] (asInt (acell (lget x9 x11) 0))))
 (nName_L0 F [] n x0 x2 x9 x10 (iadd .i64 x11 1) K)
 (K (V.int .i64 10))))
 (sel (ile 0 (idxN [45, 43, 47, 46] (asInt (acell (lget x9 x11) 0))))
 (nName_L0 F [] n x0 x2 x9 x10 (iadd .i64 x11 1) K)
 (K (V.int .i64 10))))
 (K (V.int .i64 10)))))
 (none))
 (sel (seq x0 [])
 (K (V.int .i64 10))
 (K (V.int .i64 0))) := by kernel_rfl
end Nt.Ev.YtheojhajckcdlaaGreatDoor.Nm

namespace Nt.Ev.YtheojhajckcdlaaGreatDoor.Nm
open Go Go.RowKit Nt Nt.Num Go.Proofs.YtheojhajckcdlaaGreatDoor
theorem nByS_ok (s : List UInt8) (c : Int) (hc : true = true) : Contract oE 28 [.str s, .int .u8 c] (.int .i64 (idxN s c)) := by
  refine contract_old fun G w vs hG hg hp => ?_
  obtain ⟨x, y, rfl, hx, hy⟩ := PW_two hp
  unfold rep at hx hy
  subst hx; subst hy
  refine (Go.Proofs.Tryz.strings_IndexByte ⟨s.toArray⟩ c w).mono ?_
  rintro e w' ⟨rfl, rfl⟩
  exact ⟨_, rfl, .refl _ _, res_int _ _⟩
theorem nS0_ok : SOk oE nS0 := by
  unfold nS0
  refine SOk.cons (fun args r h => ?_) (SOk.nil)
  · unfold nByS at h
    split at h
    · simp only [Option.some.injEq, Prod.mk.injEq] at h
      obtain ⟨hc, rfl⟩ := h
      exact nByS_ok _ _ rfl
    · cases h
theorem ibits_letter (c : UInt8) : (ile 97 (ibits .or .u8 ((c.toNat : Nat) : Int) 32) && ile (ibits .or .u8 ((c.toNat : Nat) : Int) 32) 122) = ((decide (65 ≤ c.toNat) && decide (c.toNat ≤ 90)) || (decide (97 ≤ c.toNat) && decide (c.toNat ≤ 122))) := by
  have h : ∀ n : Fin 256, (ile 97 (ibits .or .u8 ((n.val : Nat) : Int) 32) && ile (ibits .or .u8 ((n.val : Nat) : Int) 32) 122) = ((decide (65 ≤ n.val) && decide (n.val ≤ 90)) || (decide (97 ≤ n.val) && decide (n.val ≤ 122))) := by decide +kernel
  exact h ⟨c.toNat, c.toNat_lt⟩
theorem idx_oth (c : UInt8) : ile 0 (idxN [45, 43, 47, 46] ((c.toNat : Nat) : Int)) = (c == 45 || c == 43 || c == 47 || c == 46) := by
  have h : ∀ n : Fin 256, ile 0 (idxN [45, 43, 47, 46] ((n.val : Nat) : Int)) = (UInt8.ofNat n == 45 || UInt8.ofNat n == 43 || UInt8.ofNat n == 47 || UInt8.ofNat n == 46) := by decide +kernel
  have := h ⟨c.toNat, c.toNat_lt⟩
  simpa using this
theorem u8_ieq (c d : UInt8) : ieq ((c.toNat : Nat) : Int) ((d.toNat : Nat) : Int) = (c == d) := by
  rw [Bool.eq_iff_iff, ieq_iff, beq_iff_eq, ← UInt8.toNat_inj]; omega
theorem u8_ile (c : UInt8) (a : Nat) : ile (a : Int) ((c.toNat : Nat) : Int) = decide (a ≤ c.toNat) := by
  rw [Bool.eq_iff_iff, ile_iff, decide_eq_true_eq]; omega
theorem u8_ile' (c : UInt8) (a : Nat) : ile ((c.toNat : Nat) : Int) (a : Int) = decide (c.toNat ≤ a) := by
  rw [Bool.eq_iff_iff, ile_iff, decide_eq_true_eq]; omega
theorem nName_step (s : List UInt8) (x2 : Int) (F n k : Nat) (hk : k < s.length) (hs : s.length ≤ 64) : nName_L0 F [] (n + 1) s x2 (bytesV s) (llen (bytesV s)) (k : Int) some =
    if nmC k (s[k]) = true then nName_L0 F [] n s x2 (bytesV s) (llen (bytesV s)) ((k + 1 : Nat) : Int) some else some (.int .i64 10) := by
  have hl : (bytesV s).length = s.length := by unfold bytesV; rw [List.length_map]
  have e : asInt (acell (lget (bytesV s) (k : Int)) 0) = ((s[k].toNat : Nat) : Int) := by
    rw [lget_nat]
    unfold bytesV
    rw [List.getD_eq_getElem?_getD, List.getElem?_map, List.getElem?_eq_getElem hk]
    rfl
  have e95 : ieq ((s[k].toNat : Nat) : Int) 95 = (s[k] == 95) := u8_ieq s[k] 95
  have e48 : ile 48 ((s[k].toNat : Nat) : Int) = decide (48 ≤ s[k].toNat) := u8_ile s[k] 48
  have e57 : ile ((s[k].toNat : Nat) : Int) 57 = decide (s[k].toNat ≤ 57) := u8_ile' s[k] 57
  have e0 : ilt 0 (k : Int) = decide (0 < k) := by rw [Bool.eq_iff_iff, ilt_iff, decide_eq_true_eq]; omega
  have hL := ibits_letter s[k]
  rw [nName_L0_succ, sel_pos (ilt_t (by rw [llen_nat, hl]; omega)), sel_pos (by rw [band_iff, ile_iff, ilt_iff, llen_nat, hl]; omega), e, e95, e48, e57, e0, idx_oth, iadd64 (by omega), show (k : Int) + 1 = ((k + 1 : Nat) : Int) by omega]
  unfold nmC fstC othC
  rw [← hL]
  generalize nName_L0 F [] n s x2 (bytesV s) (llen (bytesV s)) ((k + 1 : Nat) : Int) some = N
  generalize ile 97 (ibits .or .u8 ((s[k].toNat : Nat) : Int) 32) = b1
  generalize ile (ibits .or .u8 ((s[k].toNat : Nat) : Int) 32) 122 = b2
  generalize (s[k] == 95) = b3
  generalize decide (0 < k) = b4
  generalize decide (48 ≤ s[k].toNat) = b5
  generalize decide (s[k].toNat ≤ 57) = b6
  generalize (s[k] == 45) = b7
  generalize (s[k] == 43) = b8
  generalize (s[k] == 47) = b9
  generalize (s[k] == 46) = b10
  cases b1 <;> cases b2 <;> cases b3 <;> cases b4 <;> cases b5 <;> cases b6 <;> cases b7 <;> cases b8 <;> cases b9 <;> cases b10 <;> rfl
theorem nName_loop (s : List UInt8) (x2 : Int) (F : Nat) (hs : s.length ≤ 64) : ∀ (n k : Nat), k ≤ s.length → s.length - k < n →
    nName_L0 F [] n s x2 (bytesV s) (llen (bytesV s)) (k : Int) some = some (.int .i64 (if nmF k (s.drop k) = true then (if s = [] then 10 else 0) else 10)) := by
  intro n
  induction n with
  | zero => intro k _ h; omega
  | succ n ih =>
    intro k hk hn
    by_cases h : k < s.length
    · rw [nName_step s x2 F n k h hs, List.drop_eq_getElem_cons h]
      show _ = some (V.int .i64 (if (nmC k s[k] && nmF (k + 1) (s.drop (k + 1))) = true then _ else _))
      cases hc : nmC k s[k] with
      | true => rw [if_pos rfl, ih (k + 1) (by omega) (by omega), Bool.true_and]
      | false => rw [if_neg (by decide), Bool.false_and, if_neg (by decide)]
    · have hl : (bytesV s).length = s.length := by unfold bytesV; rw [List.length_map]
      rw [nName_L0_succ, sel_neg (ilt_f (by rw [llen_nat, hl]; omega)), List.drop_of_length_le (by omega), if_pos (show nmF k [] = true from rfl), sel_if]
      by_cases h0 : s = []
      · rw [if_pos (by rw [seq_iff]; exact h0), if_pos h0]
      · rw [if_neg (by rw [seq_iff]; exact h0), if_neg h0]
theorem nm_fin (s : List UInt8) : (if nmF 0 s = true then (if s = [] then (10 : Int) else 0) else 10) = if nmF 0 s = true ∧ s ≠ [] then 0 else 10 := by
  by_cases h : nmF 0 s = true
  · rw [if_pos h]
    by_cases h0 : s = []
    · rw [if_pos h0, if_neg (fun e => e.2 h0)]
    · rw [if_neg h0, if_pos ⟨h, h0⟩]
  · rw [if_neg h, if_neg (fun e => h e.1)]
theorem nName_ev (s : List UInt8) : Contract oE 15 [.str s] (.int .i64 (nmI s)) := by
  refine contract_of_body oE_ok nS0_ok 100 2 ?_
  rw [nName_top]
  unfold nmI
  by_cases h : 64 < s.length
  · rw [sel_pos (ilt_t (by rw [slen_nat]; omega)), if_pos h]
  · rw [sel_neg (ilt_f (by rw [slen_nat]; omega)), if_neg h, sel_pos (by rw [okStr_iff]; omega)]
    have := nName_loop s 0 100 (by omega) 100 0 (by omega) (by omega)
    rw [List.drop_zero, nm_fin] at this
    exact this
end Nt.Ev.YtheojhajckcdlaaGreatDoor.Nm

namespace Nt.Maps
open Go Go.Maps Go.RowKit Go.WideMaps
abbrev DU := DataW Unit
def RelTo (D : DU) (f : List UInt8 → Option (List UInt8)) : Prop := ∀ (l : List UInt8) (z : DU), D.atKey (.string l) z = match f l with | none => z | some t => .lit (.string t)
def RelIn (D : DU) (f : List UInt8 → Bool) : Prop := ∀ (l : List UInt8) (z : DU), D.atKey (.string l) z = if f l = true then .lit (.bool true) else z
def OwnTo (w : World) (P : Program) (k e : TypeId) (b n : Nat) (f : List UInt8 → Option (List UInt8)) : Prop := ∃ D : DU, w.ownsMap P k (plainElem P e) b n D ∧ RelTo D f
def OwnIn (w : World) (P : Program) (k e : TypeId) (b n : Nat) (f : List UInt8 → Bool) : Prop := ∃ D : DU, w.ownsMap P k (plainElem P e) b n D ∧ RelIn D f ∧ Maps.size D = n
variable {P : Program} {k e t : TypeId} {w : World} {b n : Nat} {f : List UInt8 → Option (List UInt8)} {g : List UInt8 → Bool}
theorem OwnTo.made (w : World) (P : Program) (k e : TypeId) : OwnTo (w.alloc (.map #[] 0)) P k e w.heap.size 0 (fun _ => none) := ⟨_, World.ownsMap_made _ _ _ _, fun _ _ => rfl⟩
theorem OwnIn.made (w : World) (P : Program) (k e : TypeId) : OwnIn (w.alloc (.map #[] 0)) P k e w.heap.size 0 (fun _ => false) := ⟨_, World.ownsMap_made _ _ _ _, fun _ _ => rfl, rfl⟩
theorem OwnTo.lt (h : OwnTo w P k e b n f) : b < w.heap.size := h.elim fun _ h => h.1.lt
theorem OwnIn.lt (h : OwnIn w P k e b n g) : b < w.heap.size := h.elim fun _ h => h.1.lt
theorem OwnTo.kept {w' : World} {row : Option Nat} (h : OwnTo w P k e b n f) (hg : w.grownBy w' row) (hne : some b ≠ row) : OwnTo w' P k e b n f := h.elim fun D h => ⟨D, h.1.kept hg hne, h.2⟩
theorem OwnIn.kept {w' : World} {row : Option Nat} (h : OwnIn w P k e b n g) (hg : w.grownBy w' row) (hne : some b ≠ row) : OwnIn w' P k e b n g := h.elim fun D h => ⟨D, h.1.kept hg hne, h.2⟩
theorem OwnTo.alloc (h : OwnTo w P k e b n f) (o : Obj) : OwnTo (w.alloc o) P k e b n f := h.elim fun D h => ⟨D, h.1.alloc o, h.2⟩
theorem OwnIn.alloc (h : OwnIn w P k e b n g) (o : Obj) : OwnIn (w.alloc o) P k e b n g := h.elim fun D h => ⟨D, h.1.alloc o, h.2⟩
theorem key_of (hk : P.underlying k = some .string) (l : List UInt8) (hl : l.length ≤ maxLen) : keyOf P k (.string ⟨l.toArray⟩) = some (.string l) := by
  have := keyOf_string_mk (P := P) hk (s := ⟨l.toArray⟩) (by simpa [ByteArray.size] using hl)
  simpa using this
section
variable {ops : Array Oper} {rest : List Oper} {o : Oper} {a : Act} {Q : Exit → Act → World → Prop}
end
end Nt.Maps
