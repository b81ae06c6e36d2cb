/- The plain law: what the functions compute answers as the statement says. -/
import Derived.Test.YtamnfcbekogkdaaGp
import Derived.KernelRfl
set_option linter.unusedVariables false
set_option linter.unusedSimpArgs false
namespace Gq
open Go Gw Gp
/-! ### numbers and lists -/
theorem w64_id {n : Int} (h0 : -9223372036854775808 ≤ n) (h1 : n ≤ 9223372036854775807) : w64 n = n := by
  show IntKind.i64.wrap n = n
  have e : IntKind.i64.wrap n = if (true && decide (n % 18446744073709551616 ≥ 9223372036854775808)) = true then n % 18446744073709551616 - 18446744073709551616 else n % 18446744073709551616 := rfl
  rw [e]
  simp only [Bool.true_and, decide_eq_true_eq]
  split <;> omega
theorem rdD_nat {α : Type} (xs : List α) (i : Nat) (d : α) : rdD xs (i : Int) d = xs.getD i d := by simp [rdD]
theorem rdD_get {α : Type} {xs : List α} {i : Nat} (h : i < xs.length) (d : α) : rdD xs (i : Int) d = xs[i] := by
  simp [rdD, List.getD, List.getElem?_eq_getElem h]
/-- The first place at which something is found. -/
def firstS {α β : Type} (g : Nat → α → Option β) : Nat → List α → Option β
  | _, [] => none
  | i, a :: r => match g i a with
    | some b => some b
    | none => firstS g (i + 1) r
def fin {β : Type} : Option β → Sum β Unit
  | some b => .inl b
  | none => .inr ()
/-- A loop that scans a list by index. -/
theorem scan {α β : Type} {F : Nat → Int → Option (Sum β Unit)} {xs : List α} {g : Nat → α → Option β}
    (hF : ∀ k (i : Nat), i ≤ xs.length → F (k + 1) (i : Int) = if h : i < xs.length then (match g i xs[i] with | some b => some (.inl b) | none => F k ((i + 1 : Nat) : Int)) else some (.inr ())) :
    ∀ (n k i : Nat), i + n = xs.length → n < k → F k (i : Int) = some (fin (firstS g i (xs.drop i)))
  | 0, k, i, hi, hk => by
    obtain ⟨k, rfl⟩ : ∃ m, k = m + 1 := ⟨k - 1, by omega⟩
    have hi : i = xs.length := by omega
    subst hi
    rw [hF k _ (Nat.le_refl _), dif_neg (Nat.lt_irrefl _), List.drop_length]; rfl
  | n + 1, k, i, hi, hk => by
    obtain ⟨k, rfl⟩ : ∃ m, k = m + 1 := ⟨k - 1, by omega⟩
    have hlt : i < xs.length := by omega
    rw [hF k i (by omega), dif_pos hlt, List.drop_eq_getElem_cons hlt, firstS]
    cases hg : g i xs[i] with
    | some b => rfl
    | none => exact scan hF n k (i + 1) (by omega) (by omega)
theorem firstS_none {α β : Type} {g : Nat → α → Option β} {p : α → Bool} (hp : ∀ i a, g i a = none ↔ p a = true) : ∀ (i : Nat) (xs : List α), firstS g i xs = none ↔ xs.all p = true
  | i, [] => by simp [firstS]
  | i, a :: r => by
    rw [firstS, List.all_cons]
    cases hg : g i a with
    | some b =>
      have : ¬ p a = true := fun h => by rw [(hp i a).2 h] at hg; cases hg
      simp [this]
    | none => rw [(hp i a).1 hg]; simpa using firstS_none hp (i + 1) r
end Gq
set_option linter.unusedVariables false
set_option linter.unusedSimpArgs false
namespace Gp
open Gw Gq
/-! ### valid machines -/
def actB (m : Machine) (a : Action) : Bool := if a.Next = m.States then a.Write == 0 && a.Move == 0 else decide (0 ≤ a.Write ∧ a.Write < m.Symbols ∧ 0 ≤ a.Move ∧ a.Move < 2 ∧ 0 ≤ a.Next ∧ a.Next < m.States)
def dimB (m : Machine) : Bool := decide (1 ≤ m.States ∧ m.States ≤ 6 ∧ 2 ≤ m.Symbols ∧ m.Symbols ≤ 4 ∧ (m.Actions.length : Int) = m.States * m.Symbols)
def validB (m : Machine) : Bool := dimB m && m.Actions.all (actB m)
theorem action_eq (m : Machine) (a : Action) : machine_action m a = some (actB m a) := by
  unfold machine_action actB
  by_cases h : a.Next = m.States
  · simp [h]
  · simp [h, Bool.and_assoc, ge_iff_le]
theorem idx_valid (m : Machine) (xs : List Action) (hl : xs.length ≤ 1000000) (k : Nat) (hk : xs.length < k) :
    slices_IndexFunc_api_Action_api_Action_with_machine_Valid_1.l0 k 0 xs m = some (fin (firstS (fun i a => if actB m a = true then none else some (i : Int)) 0 xs)) := by
  have := scan (F := fun k i => slices_IndexFunc_api_Action_api_Action_with_machine_Valid_1.l0 k i xs m) (xs := xs) (g := fun i a => if actB m a = true then none else some (i : Int)) (fun k i hi => by
    show slices_IndexFunc_api_Action_api_Action_with_machine_Valid_1.l0 (k + 1) i xs m = _
    rw [slices_IndexFunc_api_Action_api_Action_with_machine_Valid_1.l0]
    by_cases h : i < xs.length
    · have h' : (i : Int) < (xs.length : Int) := by omega
      have h2 : 0 ≤ (i : Int) ∧ (i : Int) < (xs.length : Int) := by omega
      rw [dif_pos h, if_pos (by simpa using h'), if_pos h2, rdD_get h, machine_Valid_1, action_eq, w64_id (by omega) (by omega)]
      cases hb : actB m xs[i] <;> simp
    · have h' : ¬ (i : Int) < (xs.length : Int) := by omega
      rw [dif_neg h, if_neg (by simpa using h')]) xs.length k 0 (by simp) hk
  simpa using this
theorem firstS_ge {α : Type} {p : α → Bool} : ∀ (xs : List α) (i : Nat), (match firstS (fun i a => if p a = true then none else some (i : Int)) i xs with | some j => decide (j ≥ 0) | none => false) = !xs.all p
  | [], i => rfl
  | a :: r, i => by
    rw [firstS]
    cases h : p a
    · simp [h]
    · simpa [h] using firstS_ge r (i + 1)
theorem contains_valid (m : Machine) (xs : List Action) (hl : xs.length ≤ 1000000) (k : Nat) (hk : xs.length < k) :
    slices_ContainsFunc_api_Action_api_Action_with_machine_Valid_1 k xs m = some (!xs.all (actB m)) := by
  unfold slices_ContainsFunc_api_Action_api_Action_with_machine_Valid_1 slices_IndexFunc_api_Action_api_Action_with_machine_Valid_1
  rw [idx_valid m xs hl k hk]
  have := firstS_ge (p := actB m) xs 0
  rw [← this]
  cases firstS (fun i a => if actB m a = true then none else some (i : Int)) 0 xs <;> simp [fin, sumb]
theorem dim_w64 {m : Machine} (h : 1 ≤ m.States ∧ m.States ≤ 6 ∧ 2 ≤ m.Symbols ∧ m.Symbols ≤ 4) : w64 (m.States * m.Symbols) = m.States * m.Symbols ∧ m.States * m.Symbols ≤ 24 ∧ 2 ≤ m.States * m.Symbols := by
  obtain ⟨h1, h2, h3, h4⟩ := h
  have : m.States = 1 ∨ m.States = 2 ∨ m.States = 3 ∨ m.States = 4 ∨ m.States = 5 ∨ m.States = 6 := by omega
  have h5 : m.States * m.Symbols ≤ 24 ∧ 2 ≤ m.States * m.Symbols := by rcases this with h | h | h | h | h | h <;> rw [h] <;> omega
  exact ⟨w64_id (by omega) (by omega), h5⟩
theorem valid1 (m : Machine) (k : Nat) (hk : 25 ≤ k) : machine_Valid k m = some (validB m) := by
  unfold machine_Valid validB dimB
  by_cases h : 1 ≤ m.States ∧ m.States ≤ 6 ∧ 2 ≤ m.Symbols ∧ m.Symbols ≤ 4
  · obtain ⟨hw, h24, _⟩ := dim_w64 h
    rw [hw]
    by_cases hl : (m.Actions.length : Int) = m.States * m.Symbols
    · rw [if_pos (by simp [h, hl]), contains_valid m m.Actions (by omega) k (by omega)]
      simp [h, hl]
    · rw [if_neg (by simp [hl])]
      simp [hl]
  · rw [if_neg (by simp; intro a b c d; omega)]
    have : ¬ (1 ≤ m.States ∧ m.States ≤ 6 ∧ 2 ≤ m.Symbols ∧ m.Symbols ≤ 4 ∧ (m.Actions.length : Int) = m.States * m.Symbols) := fun hh => h ⟨hh.1, hh.2.1, hh.2.2.1, hh.2.2.2.1⟩
    simp [this]
/-! the reference -/
def actBad (m : Machine) (a : Action) : Option Bool := if actB m a = true then none else some false
theorem ref_valid_loop (m : Machine) (hd : 1 ≤ m.States ∧ m.States ≤ 6 ∧ 2 ≤ m.Symbols ∧ m.Symbols ≤ 4) (hl : m.Actions.length ≤ 1000000) (k : Nat) (hk : m.Actions.length < k) :
    ref08_Valid.l0 k 0 m = some (fin (firstS (fun _ a => if actB m a = true then none else some false) 0 m.Actions)) := by
  have := scan (F := fun k i => ref08_Valid.l0 k i m) (xs := m.Actions) (g := fun _ a => if actB m a = true then none else some false) (fun k i hi => by
    show ref08_Valid.l0 (k + 1) i m = _
    rw [ref08_Valid.l0]
    by_cases h : i < m.Actions.length
    · have h' : (i : Int) < (m.Actions.length : Int) := by omega
      have h2 : 0 ≤ (i : Int) ∧ (i : Int) < (m.Actions.length : Int) := by omega
      rw [dif_pos h, if_pos (by simpa using h'), if_pos h2, rdD_get h, w64_id (by omega) (by omega)]
      generalize m.Actions[i] = a
      unfold actB
      by_cases hn : a.Next = m.States
      · by_cases hz : a.Write = 0 ∧ a.Move = 0
        · simp [hn, hz]; omega
        · have : (a.Write == 0 && a.Move == 0) = false := by simpa using hz
          simp only [hn, if_true, this]
          split
          · simp
          · rw [if_pos (by
              simp only [beq_self_eq_true, Bool.true_and, Bool.or_eq_true, bne_iff_ne]
              by_cases hw : a.Write = 0
              · exact .inr (fun hm => hz ⟨hw, hm⟩)
              · exact .inl hw)]
            simp
      · by_cases hg : 0 ≤ a.Write ∧ a.Write < m.Symbols ∧ 0 ≤ a.Move ∧ a.Move < 2 ∧ 0 ≤ a.Next ∧ a.Next < m.States
        · have hm : a.Move = 0 ∨ a.Move = 1 := by omega
          rw [if_neg (by simp; omega), if_neg (by simp [hn])]
          simp [hn, hg]
        · rw [if_pos (by simp; omega)]
          simp [hn, hg]
    · have h' : ¬ (i : Int) < (m.Actions.length : Int) := by omega
      rw [dif_neg h, if_neg (by simpa using h')]) m.Actions.length k 0 (by simp) hk
  simpa using this
theorem firstS_const {α : Type} {p : α → Bool} : ∀ (xs : List α) (i : Nat), firstS (fun _ a => if p a = true then none else some false) i xs = if xs.all p = true then none else some false
  | [], i => rfl
  | a :: r, i => by
    rw [firstS]
    cases h : p a
    · simp [h]
    · simp only [h, if_true, List.all_cons, Bool.true_and]; exact firstS_const r (i + 1)
theorem valid2 (m : Machine) (k : Nat) (hk : 25 ≤ k) : ref08_Valid k m = some (validB m) := by
  unfold ref08_Valid validB dimB
  by_cases h : 1 ≤ m.States ∧ m.States ≤ 6 ∧ 2 ≤ m.Symbols ∧ m.Symbols ≤ 4
  · obtain ⟨hw, h24, _⟩ := dim_w64 h
    rw [hw]
    by_cases hl : (m.Actions.length : Int) = m.States * m.Symbols
    · rw [if_neg (by simp [hl]; omega), ref_valid_loop m h (by omega) k (by omega), firstS_const]
      cases m.Actions.all (actB m) <;> simp [h, hl, fin, sumb]
    · rw [if_pos (by simp [hl])]
      simp [hl]
  · rw [if_pos (by simp; omega)]
    have : ¬ (1 ≤ m.States ∧ m.States ≤ 6 ∧ 2 ≤ m.Symbols ∧ m.Symbols ≤ 4 ∧ (m.Actions.length : Int) = m.States * m.Symbols) := fun hh => h ⟨hh.1, hh.2.1, hh.2.2.1, hh.2.2.2.1⟩
    simp [this]
theorem awake_ok (k : Nat) : law08_awake (k + 40) = some true := by kernel_rfl
end Gp
set_option linter.unusedVariables false
set_option linter.unusedSimpArgs false
namespace Gp
open Gw Gq
/-! ### configurations -/
def celB (m : Machine) (s : Int) : Bool := decide (0 ≤ s ∧ s < m.Symbols)
def placeB (m : Machine) (c : Config) : Bool := decide (0 ≤ c.State ∧ c.State < m.States ∧ 1 ≤ (c.Cells.length : Int) ∧ (c.Cells.length : Int) ≤ 200 ∧ 0 ≤ c.At ∧ c.At < (c.Cells.length : Int))
def fitsB (m : Machine) (c : Config) : Bool := validB m && placeB m c && c.Cells.all (celB m)
theorem idx_fits (m : Machine) (xs : List Int) (hl : xs.length ≤ 1000000) (k : Nat) (hk : xs.length < k) :
    slices_IndexFunc_int_int_with_machine_Fits_1.l0 k 0 xs m = some (fin (firstS (fun i a => if celB m a = true then none else some (i : Int)) 0 xs)) := by
  have := scan (F := fun k i => slices_IndexFunc_int_int_with_machine_Fits_1.l0 k i xs m) (xs := xs) (g := fun i a => if celB m a = true then none else some (i : Int)) (fun k i hi => by
    show slices_IndexFunc_int_int_with_machine_Fits_1.l0 (k + 1) i xs m = _
    rw [slices_IndexFunc_int_int_with_machine_Fits_1.l0]
    by_cases h : i < xs.length
    · have h' : (i : Int) < (xs.length : Int) := by omega
      have h2 : 0 ≤ (i : Int) ∧ (i : Int) < (xs.length : Int) := by omega
      rw [dif_pos h, if_pos (by simpa using h'), if_pos h2, rdD_get h, machine_Fits_1, w64_id (by omega) (by omega)]
      by_cases hb : 0 ≤ xs[i] ∧ xs[i] < m.Symbols
      · have h3 : ¬ (xs[i] < 0 ∨ m.Symbols ≤ xs[i]) := by omega
        simp [celB, hb]
        intro hh; exact absurd hh h3
      · have h3 : (xs[i] < 0 ∨ m.Symbols ≤ xs[i]) := by omega
        simp [celB, hb, h3]
    · have h' : ¬ (i : Int) < (xs.length : Int) := by omega
      rw [dif_neg h, if_neg (by simpa using h')]) xs.length k 0 (by simp) hk
  simpa using this
theorem contains_fits (m : Machine) (xs : List Int) (hl : xs.length ≤ 1000000) (k : Nat) (hk : xs.length < k) :
    slices_ContainsFunc_int_int_with_machine_Fits_1 k xs m = some (!xs.all (celB m)) := by
  unfold slices_ContainsFunc_int_int_with_machine_Fits_1 slices_IndexFunc_int_int_with_machine_Fits_1
  rw [idx_fits m xs hl k hk]
  have := firstS_ge (p := celB m) xs 0
  rw [← this]
  cases firstS (fun i a => if celB m a = true then none else some (i : Int)) 0 xs <;> simp [fin, sumb]
theorem fits1 (m : Machine) (c : Config) (k : Nat) (hk : 201 ≤ k) : machine_Fits k m c = some (fitsB m c) := by
  unfold machine_Fits
  rw [valid1 m k (by omega)]
  unfold fitsB placeB
  cases hv : validB m
  · simp
  · by_cases h : 0 ≤ c.State ∧ c.State < m.States ∧ 1 ≤ (c.Cells.length : Int) ∧ (c.Cells.length : Int) ≤ 200 ∧ 0 ≤ c.At ∧ c.At < (c.Cells.length : Int)
    · rw [Option.bind_some, if_pos (by simp; omega), contains_fits m c.Cells (by omega) k (by omega)]
      simp [h]
    · rw [Option.bind_some, if_neg (by simp; omega)]
      simp [h]
theorem ref_fits_loop (m : Machine) (c : Config) (hl : c.Cells.length ≤ 1000000) (k : Nat) (hk : c.Cells.length < k) :
    ref08_Fits.l0 k 0 m c = some (fin (firstS (fun _ a => if celB m a = true then none else some false) 0 c.Cells)) := by
  have := scan (F := fun k i => ref08_Fits.l0 k i m c) (xs := c.Cells) (g := fun _ a => if celB m a = true then none else some false) (fun k i hi => by
    show ref08_Fits.l0 (k + 1) i m c = _
    rw [ref08_Fits.l0]
    by_cases h : i < c.Cells.length
    · have h' : (i : Int) < (c.Cells.length : Int) := by omega
      have h2 : 0 ≤ (i : Int) ∧ (i : Int) < (c.Cells.length : Int) := by omega
      rw [dif_pos h, if_pos (by simpa using h'), if_pos h2, if_pos h2, rdD_get h, w64_id (by omega) (by omega)]
      by_cases h0 : c.Cells[i] < 0
      · have : ¬ (0 ≤ c.Cells[i] ∧ c.Cells[i] < m.Symbols) := by omega
        simp [h0, celB, this]
      · by_cases h1 : m.Symbols ≤ c.Cells[i]
        · have : ¬ (0 ≤ c.Cells[i] ∧ c.Cells[i] < m.Symbols) := by omega
          simp [h0, h1, celB, this]
        · have : (0 ≤ c.Cells[i] ∧ c.Cells[i] < m.Symbols) := by omega
          simp [h0, h1, celB, this]
    · have h' : ¬ (i : Int) < (c.Cells.length : Int) := by omega
      rw [dif_neg h, if_neg (by simpa using h')]) c.Cells.length k 0 (by simp) hk
  simpa using this
theorem fits2 (m : Machine) (c : Config) (k : Nat) (hk : 201 ≤ k) : ref08_Fits k m c = some (fitsB m c) := by
  unfold ref08_Fits
  rw [valid2 m k (by omega)]
  unfold fitsB placeB
  cases hv : validB m
  · simp
  · by_cases h : 0 ≤ c.State ∧ c.State < m.States ∧ 1 ≤ (c.Cells.length : Int) ∧ (c.Cells.length : Int) ≤ 200 ∧ 0 ≤ c.At ∧ c.At < (c.Cells.length : Int)
    · rw [Option.bind_some, if_neg (by simp; omega), ref_fits_loop m c (by omega) k (by omega), firstS_const]
      cases c.Cells.all (celB m) <;> simp [h, fin, sumb]
    · rw [Option.bind_some, if_pos (by simp; omega)]
      simp [h]
/-! equality -/
theorem same_loop (a b : Config) (hab : a.Cells.length = b.Cells.length) (hl : a.Cells.length ≤ 1000000) (k : Nat) (hk : a.Cells.length < k) :
    ref08_SameConfig.l0 k 0 a b = some (fin (firstS (fun i x => if x = b.Cells.getD i 0 then none else some false) 0 a.Cells)) := by
  have := scan (F := fun k i => ref08_SameConfig.l0 k i a b) (xs := a.Cells) (g := fun i x => if x = b.Cells.getD i 0 then none else some false) (fun k i hi => by
    show ref08_SameConfig.l0 (k + 1) i a b = _
    rw [ref08_SameConfig.l0]
    by_cases h : i < a.Cells.length
    · have h' : (i : Int) < (a.Cells.length : Int) := by omega
      have h2 : 0 ≤ (i : Int) ∧ (i : Int) < (a.Cells.length : Int) := by omega
      have h3 : 0 ≤ (i : Int) ∧ (i : Int) < (b.Cells.length : Int) := by omega
      rw [dif_pos h, if_pos (by simpa using h'), if_pos h2, if_pos h3, rdD_get h, rdD_nat, w64_id (by omega) (by omega)]
      by_cases he : a.Cells[i] = b.Cells.getD i 0 <;> simp only [he, bne_self_eq_false, if_true, if_false, Bool.false_eq_true, bne_iff_ne, ne_eq, not_false_eq_true, not_true_eq_false] <;> rfl
    · have h' : ¬ (i : Int) < (a.Cells.length : Int) := by omega
      rw [dif_neg h, if_neg (by simpa using h')]) a.Cells.length k 0 (by simp) hk
  simpa using this
theorem firstS_eq (b : List Int) : ∀ (a : List Int) (i : Nat), i + a.length = b.length → firstS (fun i x => if x = b.getD i 0 then none else some false) i a = if a = b.drop i then none else some false
  | [], i, h => by
    have : b.drop i = [] := List.drop_eq_nil_of_le (by simp at h; omega)
    simp [firstS, this]
  | x :: r, i, h => by
    have hi : i < b.length := by simp at h; omega
    rw [firstS, List.drop_eq_getElem_cons hi, firstS_eq b r (i + 1) (by simp at h; omega)]
    have hg : b.getD i 0 = b[i] := by simp [List.getD, List.getElem?_eq_getElem hi]
    rw [hg]
    by_cases hx : x = b[i]
    · subst hx
      rw [if_pos rfl]
      by_cases hr : r = b.drop (i + 1)
      · rw [if_pos hr, if_pos (by rw [hr])]
      · rw [if_neg hr, if_neg (fun h => hr (List.cons.inj h).2)]
    · rw [if_neg hx, if_neg (fun h => hx (List.cons.inj h).1)]
theorem same_eq (a b : Config) (hl : a.Cells.length ≤ 1000000) (k : Nat) (hk : a.Cells.length < k) : ref08_SameConfig k a b = some (decide (a = b)) := by
  unfold ref08_SameConfig
  by_cases h1 : a.State = b.State
  · by_cases h2 : a.At = b.At
    · by_cases h3 : a.Cells.length = b.Cells.length
      · rw [if_neg (by simp [h1, h2, h3]), same_loop a b h3 hl k hk, firstS_eq b.Cells a.Cells 0 (by simpa using h3)]
        by_cases h4 : a.Cells = b.Cells
        · have : a = b := by cases a; cases b; simp_all
          simp [this, fin, sumb]
        · have : a ≠ b := fun h => h4 (by rw [h])
          simp [h4, this, fin, sumb]
      · have : a ≠ b := fun h => h3 (by rw [h])
        rw [if_pos (by simp; omega)]; simp [this]
    · have : a ≠ b := fun h => h2 (by rw [h])
      rw [if_pos (by simp [h2])]; simp [this]
  · have : a ≠ b := fun h => h1 (by rw [h])
    rw [if_pos (by simp [h1])]; simp [this]
end Gp
set_option linter.unusedVariables false
set_option linter.unusedSimpArgs false
namespace Gp
open Gw Gq
/-! ### steps -/
def zC : Config := ⟨0, 0, []⟩
def actOf (m : Machine) (c : Config) : Action := rdD m.Actions (c.State * m.Symbols + rdD c.Cells c.At 0) z_Action
def toOf (m : Machine) (c : Config) : Int := c.At + 2 * (actOf m c).Move - 1
def nextC (m : Machine) (c : Config) : Config := ⟨(actOf m c).Next, toOf m c, c.Cells.set c.At.toNat (actOf m c).Write⟩
/-- Why there is no step: 5, 6; 0: there is one. -/
def noStep (m : Machine) (c : Config) : Int := if (actOf m c).Next = m.States then 5 else if toOf m c < 0 ∨ (c.Cells.length : Int) ≤ toOf m c then 6 else 0
structure Fit (m : Machine) (c : Config) : Prop where
  dim : 1 ≤ m.States ∧ m.States ≤ 6 ∧ 2 ≤ m.Symbols ∧ m.Symbols ≤ 4
  len : (m.Actions.length : Int) = m.States * m.Symbols
  act : ∀ a ∈ m.Actions, actB m a = true
  place : 0 ≤ c.State ∧ c.State < m.States ∧ 1 ≤ (c.Cells.length : Int) ∧ (c.Cells.length : Int) ≤ 200 ∧ 0 ≤ c.At ∧ c.At < (c.Cells.length : Int)
  cel : ∀ s ∈ c.Cells, 0 ≤ s ∧ s < m.Symbols
theorem fit_of {m : Machine} {c : Config} (h : fitsB m c = true) : Fit m c := by
  unfold fitsB validB dimB placeB at h
  simp only [Bool.and_eq_true, decide_eq_true_eq, List.all_eq_true] at h
  obtain ⟨⟨⟨h1, h2⟩, h3⟩, h4⟩ := h
  exact ⟨⟨h1.1, h1.2.1, h1.2.2.1, h1.2.2.2.1⟩, h1.2.2.2.2, h2, h3, fun s hs => by have := h4 s hs; simpa [celB] using this⟩
theorem of_fit {m : Machine} {c : Config} (h : Fit m c) : fitsB m c = true := by
  unfold fitsB validB dimB placeB
  simp only [Bool.and_eq_true, decide_eq_true_eq, List.all_eq_true]
  exact ⟨⟨⟨⟨h.dim.1, h.dim.2.1, h.dim.2.2.1, h.dim.2.2.2, h.len⟩, h.act⟩, h.place⟩, fun s hs => by have := h.cel s hs; simpa [celB] using this⟩
theorem rdD_mem {α : Type} {xs : List α} {i : Int} (h0 : 0 ≤ i) (h1 : i < (xs.length : Int)) (d : α) : rdD xs i d ∈ xs := by
  have : i.toNat < xs.length := by omega
  unfold rdD
  rw [List.getD_eq_getElem?_getD, List.getElem?_eq_getElem this]
  simp
theorem Fit.cell {m : Machine} {c : Config} (h : Fit m c) : 0 ≤ rdD c.Cells c.At 0 ∧ rdD c.Cells c.At 0 < m.Symbols := h.cel _ (rdD_mem h.place.2.2.2.2.1 h.place.2.2.2.2.2 0)
theorem Fit.state {m : Machine} {c : Config} (h : Fit m c) {s : Int} (hs : 0 ≤ s ∧ s < m.Symbols) {q : Int} (hq : 0 ≤ q ∧ q < m.States) : 0 ≤ q * m.Symbols + s ∧ q * m.Symbols + s < (m.Actions.length : Int) ∧ q * m.Symbols + s < 24 ∧ 0 ≤ q * m.Symbols ∧ q * m.Symbols < 24 := by
  have hd := h.dim
  have hl := h.len
  have hp := dim_w64 hd
  have hm : (q + 1) * m.Symbols ≤ m.States * m.Symbols := Int.mul_le_mul_of_nonneg_right (by omega) (by omega)
  have h0 : 0 ≤ q * m.Symbols := Int.mul_nonneg hq.1 (by omega)
  rw [Int.add_mul, Int.one_mul] at hm
  refine ⟨by omega, by rw [hl]; omega, by omega, h0, by omega⟩
theorem Fit.idx {m : Machine} {c : Config} (h : Fit m c) : 0 ≤ c.State * m.Symbols + rdD c.Cells c.At 0 ∧ c.State * m.Symbols + rdD c.Cells c.At 0 < (m.Actions.length : Int) ∧ c.State * m.Symbols + rdD c.Cells c.At 0 < 24 ∧ 0 ≤ c.State * m.Symbols ∧ c.State * m.Symbols < 24 :=
  h.state h.cell ⟨h.place.1, h.place.2.1⟩
theorem Fit.widx {m : Machine} {c : Config} (h : Fit m c) : w64 (w64 (c.State * m.Symbols) + rdD c.Cells c.At 0) = c.State * m.Symbols + rdD c.Cells c.At 0 := by
  have hi := h.idx
  rw [w64_id (n := c.State * m.Symbols) (by omega) (by omega), w64_id (by omega) (by omega)]
theorem Fit.actOf {m : Machine} {c : Config} (h : Fit m c) : actB m (actOf m c) = true := h.act _ (rdD_mem h.idx.1 h.idx.2.1 _)
theorem actB_cases {m : Machine} {a : Action} (h : actB m a = true) : (a.Next = m.States ∧ a.Write = 0 ∧ a.Move = 0) ∨ (a.Next ≠ m.States ∧ 0 ≤ a.Write ∧ a.Write < m.Symbols ∧ (a.Move = 0 ∨ a.Move = 1) ∧ 0 ≤ a.Next ∧ a.Next < m.States) := by
  unfold actB at h
  split at h
  · rename_i hn
    simp only [Bool.and_eq_true, beq_iff_eq] at h
    exact .inl ⟨hn, h.1, h.2⟩
  · rename_i hn
    simp only [decide_eq_true_eq] at h
    exact .inr ⟨hn, h.1, h.2.1, by omega, h.2.2.2.2.1, h.2.2.2.2.2⟩
theorem Fit.move {m : Machine} {c : Config} (h : Fit m c) : (Gp.actOf m c).Move = 0 ∨ (Gp.actOf m c).Move = 1 := by
  rcases actB_cases h.actOf with h | h
  · exact .inl h.2.2
  · exact h.2.2.2.1
theorem Fit.next {m : Machine} {c : Config} (h : Fit m c) (hs : noStep m c = 0) : Fit m (nextC m c) := by
  unfold noStep at hs
  split at hs
  · cases hs
  · rename_i hn
    split at hs
    · cases hs
    · rename_i ht
      rcases actB_cases h.actOf with ha | ha
      · exact absurd ha.1 hn
      · refine ⟨h.dim, h.len, h.act, ?_, fun s hs => ?_⟩
        · have := h.place
          simp only [nextC, List.length_set]
          exact ⟨ha.2.2.2.2.1, ha.2.2.2.2.2, by omega, by omega, by omega, by omega⟩
        · rcases List.mem_or_eq_of_mem_set hs with h1 | h1
          · exact h.cel s h1
          · rw [h1]; exact ⟨ha.2.1, ha.2.2.1⟩
theorem does_eq {m : Machine} {c : Config} (h : Fit m c) : machine_runner_does ⟨m, c⟩ = some (c.State * m.Symbols + rdD c.Cells c.At 0) := by
  unfold machine_runner_does
  rw [if_pos ⟨h.place.2.2.2.2.1, h.place.2.2.2.2.2⟩, h.widx]
theorem Fit.wto {m : Machine} {c : Config} (h : Fit m c) : w64 (w64 (c.At + w64 (2 * (Gp.actOf m c).Move)) - 1) = toOf m c := by
  have hm := h.move
  have hp := h.place
  rw [w64_id (n := 2 * (Gp.actOf m c).Move) (by omega) (by omega), w64_id (n := c.At + 2 * (Gp.actOf m c).Move) (by omega) (by omega), w64_id (by omega) (by omega)]; rfl
theorem rstep_eq {m : Machine} {c : Config} (h : Fit m c) : machine_runner_step ⟨m, c⟩ = some (noStep m c, ⟨m, if noStep m c = 0 then nextC m c else c⟩) := by
  unfold machine_runner_step
  have hi := h.idx
  rw [does_eq h, Option.bind_some, if_pos ⟨hi.1, hi.2.1⟩, Option.bind_some]
  show (if ((actOf m c).Next == m.States) = true then _ else _) = _
  simp only
  rw [show (rdD m.Actions (c.State * m.Symbols + rdD c.Cells c.At 0) z_Action) = actOf m c from rfl, h.wto]
  unfold noStep
  by_cases hn : (actOf m c).Next = m.States
  · simp [hn]
  · rw [if_neg (by simpa using hn)]
    by_cases ht : toOf m c < 0 ∨ (c.Cells.length : Int) ≤ toOf m c
    · rw [if_pos (by simpa [ge_iff_le] using ht)]; simp [hn, ht]
    · rw [if_neg (by simpa [ge_iff_le] using ht), if_pos ⟨h.place.2.2.2.2.1, h.place.2.2.2.2.2⟩]; simp [hn, ht, nextC]
theorem clone_eq {xs : List Int} (h : xs.length ≤ 1000000) : slices_Clone_int_int xs = some xs := by
  unfold slices_Clone_int_int slices_Clone_int_int_some
  rw [if_pos (by simp; omega)]; rfl
theorem begin_eq {m : Machine} {c : Config} (h : c.Cells.length ≤ 1000000) : machine_begin m c = some ⟨m, c⟩ := by
  unfold machine_begin
  rw [clone_eq h]; rfl
def stepS (m : Machine) (c : Config) : Config × Int := if noStep m c = 0 then (nextC m c, 0) else (zC, noStep m c)
theorem step1 {m : Machine} {c : Config} {k : Nat} (hk : 201 ≤ k) : machine_Step k m c = some (if fitsB m c = true then stepS m c else (zC, 1)) := by
  unfold machine_Step
  rw [fits1 m c k hk, Option.bind_some]
  cases hf : fitsB m c
  · rfl
  · have h := fit_of hf
    have hp := h.place
    rw [if_neg (by simp), begin_eq (by omega), Option.bind_some]
    show (machine_runner_step ⟨m, c⟩).bind _ = _
    rw [rstep_eq h, Option.bind_some]
    unfold stepS
    by_cases hn : noStep m c = 0
    · simp [hn]
    · simp [hn, zC]
theorem step2 {m : Machine} {c : Config} (h : Fit m c) : ref08_Step m c = some (stepS m c) := by
  have hi := h.idx
  have hp := h.place
  unfold ref08_Step
  rw [h.widx, if_pos ⟨hp.2.2.2.2.1, hp.2.2.2.2.2⟩, if_pos ⟨hi.1, hi.2.1⟩]
  rw [show (rdD m.Actions (c.State * m.Symbols + rdD c.Cells c.At 0) z_Action) = actOf m c from rfl]
  unfold stepS noStep
  by_cases hn : (actOf m c).Next = m.States
  · simp [hn, zC]
  · rw [if_neg (by simpa using hn)]
    unfold ref08_Copy
    rw [if_pos (by simp; omega), Option.bind_some]
    simp only [List.nil_append]
    rw [if_pos ⟨hp.2.2.2.2.1, hp.2.2.2.2.2⟩]
    have hto : (if ((actOf m c).Move == 1) = true then some (w64 (c.At + 1)) else some (w64 (c.At - 1))) = some (toOf m c) := by
      unfold toOf
      rcases h.move with hm | hm
      · rw [hm, if_neg (by simp), w64_id (by omega) (by omega)]; congr 1; omega
      · rw [hm, if_pos (by simp), w64_id (by omega) (by omega)]; congr 1; omega
    rw [hto, Option.bind_some]
    by_cases ht : toOf m c < 0 ∨ (c.Cells.length : Int) ≤ toOf m c
    · rw [if_pos (by simpa [ge_iff_le] using ht)]; simp [hn, ht, zC]
    · rw [if_neg (by simpa [ge_iff_le] using ht)]; simp [hn, ht, nextC]
/-! ### runs -/
def runS (m : Machine) : Nat → Config → Config × Nat
  | 0, c => (c, 0)
  | n + 1, c => if noStep m c = 0 then ((runS m n (nextC m c)).1, (runS m n (nextC m c)).2 + 1) else (c, 0)
theorem run_fit {m : Machine} : ∀ (n : Nat) {c : Config}, Fit m c → Fit m (runS m n c).1
  | 0, c, h => h
  | n + 1, c, h => by
    rw [runS]
    split
    · rename_i hn; exact run_fit n (h.next hn)
    · exact h
theorem run_le {m : Machine} : ∀ (n : Nat) (c : Config), (runS m n c).2 ≤ n
  | 0, c => Nat.le_refl _
  | n + 1, c => by
    rw [runS]
    split
    · have := run_le (m := m) n (nextC m c); simp only; omega
    · simp
theorem run1_loop {m : Machine} {n : Int} (hn : n ≤ 1000000) : ∀ (d k : Nat) (i : Int) (c : Config), 0 ≤ i → i + d = n → d < k → Fit m c →
    machine_Run.l0 k m.States m.Symbols c.State c.At c.Cells i m n = some (m.States, m.Symbols, (runS m d c).1.State, (runS m d c).1.At, (runS m d c).1.Cells, i + (runS m d c).2)
  | 0, k, i, c, h0, hd, hk, h => by
    obtain ⟨k, rfl⟩ : ∃ m, k = m + 1 := ⟨k - 1, by omega⟩
    rw [machine_Run.l0, if_neg (by simp; omega)]
    simp [runS]
  | d + 1, k, i, c, h0, hd, hk, h => by
    obtain ⟨k, rfl⟩ : ∃ m, k = m + 1 := ⟨k - 1, by omega⟩
    rw [machine_Run.l0, if_pos (by simp; omega)]
    rw [show (Runner.mk (Machine.mk m.States m.Symbols m.Actions) (Config.mk c.State c.At c.Cells)) = ⟨m, c⟩ from rfl, rstep_eq h, Option.bind_some, Option.bind_some]
    rw [runS]
    by_cases hs : noStep m c = 0
    · simp only [hs, if_true, beq_self_eq_true]
      rw [w64_id (by omega) (by omega)]
      have := run1_loop hn d k (i + 1) (nextC m c) (by omega) (by omega) (by omega) (h.next hs)
      rw [this]
      simp only [Option.some.injEq, Prod.mk.injEq, true_and]
      push_cast; omega
    · simp [hs]
theorem run1 {m : Machine} {c : Config} {n : Int} {k : Nat} (hk : 201 ≤ k) (hk2 : n.toNat < k) (hn : n ≤ 1000000) (h0 : 0 ≤ n) (hn2 : n ≤ 100000) (h : Fit m c) :
    machine_Run k m c n = some ((runS m n.toNat c).1, ((runS m n.toNat c).2 : Int), 0) := by
  unfold machine_Run
  rw [fits1 m c k hk, Option.bind_some, of_fit h, if_neg (by simp), if_neg (by simp; omega), begin_eq (by have := h.place; omega), Option.bind_some]
  rw [run1_loop hn n.toNat k 0 c (by omega) (by omega) hk2 h]
  simp
theorem run2_loop {m : Machine} {n : Int} (hn : n ≤ 1000000) : ∀ (d k : Nat) (i : Int) (c : Config), 0 ≤ i → i + d = n → d < k → Fit m c →
    (ref08_Run.l0 k c.State c.At c.Cells i m n).bind (fun x => sumb x (fun r => some r) (fun y => some ((Config.mk y.1 y.2.1 y.2.2), n))) = some ((runS m d c).1, i + (runS m d c).2)
  | 0, k, i, c, h0, hd, hk, h => by
    obtain ⟨k, rfl⟩ : ∃ m, k = m + 1 := ⟨k - 1, by omega⟩
    rw [ref08_Run.l0, if_neg (by simp; omega)]
    simp [runS, sumb]; omega
  | d + 1, k, i, c, h0, hd, hk, h => by
    obtain ⟨k, rfl⟩ : ∃ m, k = m + 1 := ⟨k - 1, by omega⟩
    rw [ref08_Run.l0, if_pos (by simp; omega)]
    rw [show (Config.mk c.State c.At c.Cells) = c from rfl, step2 h, Option.bind_some]
    rw [runS]
    unfold stepS
    by_cases hs : noStep m c = 0
    · simp only [hs, if_true, bne_self_eq_false, Bool.false_eq_true, if_false]
      rw [w64_id (by omega) (by omega)]
      have := run2_loop hn d k (i + 1) (nextC m c) (by omega) (by omega) (by omega) (h.next hs)
      rw [this]
      simp only [Option.some.injEq, Prod.mk.injEq, true_and]
      push_cast; omega
    · simp [hs, sumb]
theorem run2 {m : Machine} {c : Config} {n : Int} {k : Nat} (hk2 : n.toNat < k) (hn : n ≤ 1000000) (h0 : 0 ≤ n) (h : Fit m c) :
    ref08_Run k m c n = some ((runS m n.toNat c).1, ((runS m n.toNat c).2 : Int)) := by
  unfold ref08_Run ref08_Copy
  rw [if_pos (by have := h.place; simp; omega), Option.bind_some]
  simp only [List.nil_append]
  rw [run2_loop hn n.toNat k 0 c (by omega) (by omega) hk2 h]
  simp
end Gp
set_option linter.unusedVariables false
set_option linter.unusedSimpArgs false
namespace Gp
open Gw Gq
theorem stepS_len {m : Machine} {c : Config} (h : Fit m c) : (stepS m c).1.Cells.length ≤ 200 := by
  unfold stepS
  have := h.place
  split
  · simp [nextC]; omega
  · simp [zC]
theorem law08_MachineSteps_pure : ∀ (p0 : Machine) (p1 : Config) (p2 : Int), (ok_Machine p0) → (ok_Config p1) → (ok64 p2) → ∃ k, law08_MachineSteps k p0 p1 p2 = some true := by
  intro m c n _ _ _
  refine ⟨5000, ?_⟩
  have aw : law08_awake 5000 = some true := awake_ok 4960
  unfold law08_MachineSteps law08_wide
  rw [Option.bind_some]
  split
  · rw [aw]; rfl
  · rename_i hw
    have hc : c.Cells.length ≤ 1000 := by
      simp at hw; omega
    have hn : n ≤ 3000 ∨ 100000 < n := by
      simp at hw; omega
    rw [valid1 m 5000 (by omega), valid2 m 5000 (by omega), Option.bind_some, Option.bind_some, if_neg (by simp), fits1 m c 5000 (by omega), fits2 m c 5000 (by omega)]
    simp only [Option.bind_some, bne_self_eq_false, Bool.false_eq_true, if_false]
    rw [step1 (by omega), Option.bind_some]
    cases hf : fitsB m c
    · -- not valid
      have hr : machine_Run 5000 m c n = some (zC, 0, 1) := by
        unfold machine_Run
        rw [fits1 m c 5000 (by omega), Option.bind_some, hf]; rfl
      rw [hr, Option.bind_some]
      simp only [Bool.false_eq_true, if_false, Bool.not_false, if_true, beq_self_eq_true, Bool.and_self]
      have hs : ref08_SameConfig 5000 zC ⟨0, 0, []⟩ = some true := by rw [same_eq _ _ (by simp [zC]) _ (by simp [zC])]; rfl
      rw [hs]; simp [aw]
    · have h := fit_of hf
      have hp := h.place
      have hl := stepS_len h
      simp only [if_true, Bool.not_true, Bool.false_eq_true, if_false]
      have hs : ref08_SameConfig 5000 (stepS m c).1 (stepS m c).1 = some true := by rw [same_eq _ _ (by omega) _ (by omega)]; simp
      by_cases hb : n < 0 ∨ 100000 < n
      · have hr : machine_Run 5000 m c n = some (zC, 0, 2) := by
          unfold machine_Run
          rw [fits1 m c 5000 (by omega), Option.bind_some, hf, if_neg (by simp), if_pos (by simpa using hb)]; rfl
        rw [hr, Option.bind_some, step2 h, Option.bind_some]
        simp only [bne_self_eq_false, Bool.false_eq_true, if_false, hs, Option.bind_some, Bool.not_true]
        rw [if_pos (by simpa using hb)]
        have hz : ref08_SameConfig 5000 zC ⟨0, 0, []⟩ = some true := by rw [same_eq _ _ (by simp [zC]) _ (by simp [zC])]; rfl
        simp [hz, aw]
      · have h0 : 0 ≤ n := by omega
        have hn2 : n ≤ 3000 := by omega
        rw [run1 (by omega) (by omega) (by omega) h0 (by omega) h, Option.bind_some, step2 h, Option.bind_some]
        simp only [bne_self_eq_false, Bool.false_eq_true, if_false, hs, Option.bind_some, Bool.not_true]
        rw [if_neg (by simpa using hb), run2 (by omega) (by omega) h0 h, Option.bind_some]
        have hfr := run_fit n.toNat h
        have hpr := hfr.place
        have hz : ref08_SameConfig 5000 (runS m n.toNat c).1 (runS m n.toNat c).1 = some true := by rw [same_eq _ _ (by omega) _ (by omega)]; simp
        simp [hz, aw]
end Gp
