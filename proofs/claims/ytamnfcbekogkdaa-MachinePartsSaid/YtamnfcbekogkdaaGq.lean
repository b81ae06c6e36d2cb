/- The plain law: what the functions compute answers as the statement says. -/
import Derived.Test.YtamnfcbekogkdaaGp
import Derived.KernelRfl
set_option linter.unusedVariables false
set_option linter.unusedSimpArgs false
namespace Gq
open Go Gw Gp
/-! ### numbers and lists -/
theorem w64_id {n : Int} (h0 : -9223372036854775808 ≤ n) (h1 : n ≤ 9223372036854775807) : w64 n = n := by
  show IntKind.i64.wrap n = n
  have e : IntKind.i64.wrap n = if (true && decide (n % 18446744073709551616 ≥ 9223372036854775808)) = true then n % 18446744073709551616 - 18446744073709551616 else n % 18446744073709551616 := rfl
  rw [e]
  simp only [Bool.true_and, decide_eq_true_eq]
  split <;> omega
theorem rdD_nat {α : Type} (xs : List α) (i : Nat) (d : α) : rdD xs (i : Int) d = xs.getD i d := by simp [rdD]
theorem rdD_get {α : Type} {xs : List α} {i : Nat} (h : i < xs.length) (d : α) : rdD xs (i : Int) d = xs[i] := by
  simp [rdD, List.getD, List.getElem?_eq_getElem h]
def firstS {α β : Type} (g : Nat → α → Option β) : Nat → List α → Option β
  | _, [] => none
  | i, a :: r => match g i a with
    | some b => some b
    | none => firstS g (i + 1) r
def fin {β : Type} : Option β → Sum β Unit
  | some b => .inl b
  | none => .inr ()
theorem scan {α β : Type} {F : Nat → Int → Option (Sum β Unit)} {xs : List α} {g : Nat → α → Option β}
    (hF : ∀ k (i : Nat), i ≤ xs.length → F (k + 1) (i : Int) = if h : i < xs.length then (match g i xs[i] with | some b => some (.inl b) | none => F k ((i + 1 : Nat) : Int)) else some (.inr ())) :
    ∀ (n k i : Nat), i + n = xs.length → n < k → F k (i : Int) = some (fin (firstS g i (xs.drop i)))
  | 0, k, i, hi, hk => by
    obtain ⟨k, rfl⟩ : ∃ m, k = m + 1 := ⟨k - 1, by omega⟩
    have hi : i = xs.length := by omega
    subst hi
    rw [hF k _ (Nat.le_refl _), dif_neg (Nat.lt_irrefl _), List.drop_length]; rfl
  | n + 1, k, i, hi, hk => by
    obtain ⟨k, rfl⟩ : ∃ m, k = m + 1 := ⟨k - 1, by omega⟩
    have hlt : i < xs.length := by omega
    rw [hF k i (by omega), dif_pos hlt, List.drop_eq_getElem_cons hlt, firstS]
    cases hg : g i xs[i] with
    | some b => rfl
    | none => exact scan hF n k (i + 1) (by omega) (by omega)
theorem firstS_none {α β : Type} {g : Nat → α → Option β} {p : α → Bool} (hp : ∀ i a, g i a = none ↔ p a = true) : ∀ (i : Nat) (xs : List α), firstS g i xs = none ↔ xs.all p = true
  | i, [] => by simp [firstS]
  | i, a :: r => by
    rw [firstS, List.all_cons]
    cases hg : g i a with
    | some b =>
      have : ¬ p a = true := fun h => by rw [(hp i a).2 h] at hg; cases hg
      simp [this]
    | none => rw [(hp i a).1 hg]; simpa using firstS_none hp (i + 1) r
end Gq
set_option linter.unusedVariables false
set_option linter.unusedSimpArgs false
namespace Gp
open Gw Gq
/-! ### valid machines -/
def actB (m : Machine) (a : Action) : Bool := if a.Next = m.States then a.Write == 0 && a.Move == 0 else decide (0 ≤ a.Write ∧ a.Write < m.Symbols ∧ 0 ≤ a.Move ∧ a.Move < 2 ∧ 0 ≤ a.Next ∧ a.Next < m.States)
def dimB (m : Machine) : Bool := decide (1 ≤ m.States ∧ m.States ≤ 6 ∧ 2 ≤ m.Symbols ∧ m.Symbols ≤ 4 ∧ (m.Actions.length : Int) = m.States * m.Symbols)
def validB (m : Machine) : Bool := dimB m && m.Actions.all (actB m)
theorem action_eq (m : Machine) (a : Action) : machine_action m a = some (actB m a) := by
  unfold machine_action actB
  by_cases h : a.Next = m.States
  · simp [h]
  · simp [h, Bool.and_assoc, ge_iff_le]
theorem idx_valid (m : Machine) (xs : List Action) (hl : xs.length ≤ 1000000) (k : Nat) (hk : xs.length < k) :
    slices_IndexFunc_api_Action_api_Action_with_machine_Valid_1.l0 k 0 xs m = some (fin (firstS (fun i a => if actB m a = true then none else some (i : Int)) 0 xs)) := by
  have := scan (F := fun k i => slices_IndexFunc_api_Action_api_Action_with_machine_Valid_1.l0 k i xs m) (xs := xs) (g := fun i a => if actB m a = true then none else some (i : Int)) (fun k i hi => by
    show slices_IndexFunc_api_Action_api_Action_with_machine_Valid_1.l0 (k + 1) i xs m = _
    rw [slices_IndexFunc_api_Action_api_Action_with_machine_Valid_1.l0]
    by_cases h : i < xs.length
    · have h' : (i : Int) < (xs.length : Int) := by omega
      have h2 : 0 ≤ (i : Int) ∧ (i : Int) < (xs.length : Int) := by omega
      rw [dif_pos h, if_pos (by simpa using h'), if_pos h2, rdD_get h, machine_Valid_1, action_eq, w64_id (by omega) (by omega)]
      cases hb : actB m xs[i] <;> simp
    · have h' : ¬ (i : Int) < (xs.length : Int) := by omega
      rw [dif_neg h, if_neg (by simpa using h')]) xs.length k 0 (by simp) hk
  simpa using this
theorem firstS_ge {α : Type} {p : α → Bool} : ∀ (xs : List α) (i : Nat), (match firstS (fun i a => if p a = true then none else some (i : Int)) i xs with | some j => decide (j ≥ 0) | none => false) = !xs.all p
  | [], i => rfl
  | a :: r, i => by
    rw [firstS]
    cases h : p a
    · simp [h]
    · simpa [h] using firstS_ge r (i + 1)
theorem contains_valid (m : Machine) (xs : List Action) (hl : xs.length ≤ 1000000) (k : Nat) (hk : xs.length < k) :
    slices_ContainsFunc_api_Action_api_Action_with_machine_Valid_1 k xs m = some (!xs.all (actB m)) := by
  unfold slices_ContainsFunc_api_Action_api_Action_with_machine_Valid_1 slices_IndexFunc_api_Action_api_Action_with_machine_Valid_1
  rw [idx_valid m xs hl k hk]
  have := firstS_ge (p := actB m) xs 0
  rw [← this]
  cases firstS (fun i a => if actB m a = true then none else some (i : Int)) 0 xs <;> simp [fin, sumb]
theorem dim_w64 {m : Machine} (h : 1 ≤ m.States ∧ m.States ≤ 6 ∧ 2 ≤ m.Symbols ∧ m.Symbols ≤ 4) : w64 (m.States * m.Symbols) = m.States * m.Symbols ∧ m.States * m.Symbols ≤ 24 ∧ 2 ≤ m.States * m.Symbols := by
  obtain ⟨h1, h2, h3, h4⟩ := h
  have : m.States = 1 ∨ m.States = 2 ∨ m.States = 3 ∨ m.States = 4 ∨ m.States = 5 ∨ m.States = 6 := by omega
  have h5 : m.States * m.Symbols ≤ 24 ∧ 2 ≤ m.States * m.Symbols := by rcases this with h | h | h | h | h | h <;> rw [h] <;> omega
  exact ⟨w64_id (by omega) (by omega), h5⟩
theorem valid1 (m : Machine) (k : Nat) (hk : 25 ≤ k) : machine_Valid k m = some (validB m) := by
  unfold machine_Valid validB dimB
  by_cases h : 1 ≤ m.States ∧ m.States ≤ 6 ∧ 2 ≤ m.Symbols ∧ m.Symbols ≤ 4
  · obtain ⟨hw, h24, _⟩ := dim_w64 h
    rw [hw]
    by_cases hl : (m.Actions.length : Int) = m.States * m.Symbols
    · rw [if_pos (by simp [h, hl]), contains_valid m m.Actions (by omega) k (by omega)]
      simp [h, hl]
    · rw [if_neg (by simp [hl])]
      simp [hl]
  · rw [if_neg (by simp; intro a b c d; omega)]
    have : ¬ (1 ≤ m.States ∧ m.States ≤ 6 ∧ 2 ≤ m.Symbols ∧ m.Symbols ≤ 4 ∧ (m.Actions.length : Int) = m.States * m.Symbols) := fun hh => h ⟨hh.1, hh.2.1, hh.2.2.1, hh.2.2.2.1⟩
    simp [this]
/-! the reference -/
def actBad (m : Machine) (a : Action) : Option Bool := if actB m a = true then none else some false
theorem ref_valid_loop (m : Machine) (hd : 1 ≤ m.States ∧ m.States ≤ 6 ∧ 2 ≤ m.Symbols ∧ m.Symbols ≤ 4) (hl : m.Actions.length ≤ 1000000) (k : Nat) (hk : m.Actions.length < k) :
    ref08_Valid.l0 k 0 m = some (fin (firstS (fun _ a => if actB m a = true then none else some false) 0 m.Actions)) := by
  have := scan (F := fun k i => ref08_Valid.l0 k i m) (xs := m.Actions) (g := fun _ a => if actB m a = true then none else some false) (fun k i hi => by
    show ref08_Valid.l0 (k + 1) i m = _
    rw [ref08_Valid.l0]
    by_cases h : i < m.Actions.length
    · have h' : (i : Int) < (m.Actions.length : Int) := by omega
      have h2 : 0 ≤ (i : Int) ∧ (i : Int) < (m.Actions.length : Int) := by omega
      rw [dif_pos h, if_pos (by simpa using h'), if_pos h2, rdD_get h, w64_id (by omega) (by omega)]
      generalize m.Actions[i] = a
      unfold actB
      by_cases hn : a.Next = m.States
      · by_cases hz : a.Write = 0 ∧ a.Move = 0
        · simp [hn, hz]; omega
        · have : (a.Write == 0 && a.Move == 0) = false := by simpa using hz
          simp only [hn, if_true, this]
          split
          · simp
          · rw [if_pos (by
              simp only [beq_self_eq_true, Bool.true_and, Bool.or_eq_true, bne_iff_ne]
              by_cases hw : a.Write = 0
              · exact .inr (fun hm => hz ⟨hw, hm⟩)
              · exact .inl hw)]
            simp
      · by_cases hg : 0 ≤ a.Write ∧ a.Write < m.Symbols ∧ 0 ≤ a.Move ∧ a.Move < 2 ∧ 0 ≤ a.Next ∧ a.Next < m.States
        · have hm : a.Move = 0 ∨ a.Move = 1 := by omega
          rw [if_neg (by simp; omega), if_neg (by simp [hn])]
          simp [hn, hg]
        · rw [if_pos (by simp; omega)]
          simp [hn, hg]
    · have h' : ¬ (i : Int) < (m.Actions.length : Int) := by omega
      rw [dif_neg h, if_neg (by simpa using h')]) m.Actions.length k 0 (by simp) hk
  simpa using this
theorem firstS_const {α : Type} {p : α → Bool} : ∀ (xs : List α) (i : Nat), firstS (fun _ a => if p a = true then none else some false) i xs = if xs.all p = true then none else some false
  | [], i => rfl
  | a :: r, i => by
    rw [firstS]
    cases h : p a
    · simp [h]
    · simp only [h, if_true, List.all_cons, Bool.true_and]; exact firstS_const r (i + 1)
theorem valid2 (m : Machine) (k : Nat) (hk : 25 ≤ k) : ref08_Valid k m = some (validB m) := by
  unfold ref08_Valid validB dimB
  by_cases h : 1 ≤ m.States ∧ m.States ≤ 6 ∧ 2 ≤ m.Symbols ∧ m.Symbols ≤ 4
  · obtain ⟨hw, h24, _⟩ := dim_w64 h
    rw [hw]
    by_cases hl : (m.Actions.length : Int) = m.States * m.Symbols
    · rw [if_neg (by simp [hl]; omega), ref_valid_loop m h (by omega) k (by omega), firstS_const]
      cases m.Actions.all (actB m) <;> simp [h, hl, fin, sumb]
    · rw [if_pos (by simp [hl])]
      simp [hl]
  · rw [if_pos (by simp; omega)]
    have : ¬ (1 ≤ m.States ∧ m.States ≤ 6 ∧ 2 ≤ m.Symbols ∧ m.Symbols ≤ 4 ∧ (m.Actions.length : Int) = m.States * m.Symbols) := fun hh => h ⟨hh.1, hh.2.1, hh.2.2.1, hh.2.2.2.1⟩
    simp [this]
theorem awake_ok (k : Nat) : law08_awake (k + 40) = some true := by kernel_rfl
end Gp
set_option linter.unusedVariables false
set_option linter.unusedSimpArgs false
namespace Gp
open Gw Gq
/-! ### configurations -/
def celB (m : Machine) (s : Int) : Bool := decide (0 ≤ s ∧ s < m.Symbols)
def placeB (m : Machine) (c : Config) : Bool := decide (0 ≤ c.State ∧ c.State < m.States ∧ 1 ≤ (c.Cells.length : Int) ∧ (c.Cells.length : Int) ≤ 200 ∧ 0 ≤ c.At ∧ c.At < (c.Cells.length : Int))
def fitsB (m : Machine) (c : Config) : Bool := validB m && placeB m c && c.Cells.all (celB m)
theorem idx_fits (m : Machine) (xs : List Int) (hl : xs.length ≤ 1000000) (k : Nat) (hk : xs.length < k) :
    slices_IndexFunc_int_int_with_machine_Fits_1.l0 k 0 xs m = some (fin (firstS (fun i a => if celB m a = true then none else some (i : Int)) 0 xs)) := by
  have := scan (F := fun k i => slices_IndexFunc_int_int_with_machine_Fits_1.l0 k i xs m) (xs := xs) (g := fun i a => if celB m a = true then none else some (i : Int)) (fun k i hi => by
    show slices_IndexFunc_int_int_with_machine_Fits_1.l0 (k + 1) i xs m = _
    rw [slices_IndexFunc_int_int_with_machine_Fits_1.l0]
    by_cases h : i < xs.length
    · have h' : (i : Int) < (xs.length : Int) := by omega
      have h2 : 0 ≤ (i : Int) ∧ (i : Int) < (xs.length : Int) := by omega
      rw [dif_pos h, if_pos (by simpa using h'), if_pos h2, rdD_get h, machine_Fits_1, w64_id (by omega) (by omega)]
      by_cases hb : 0 ≤ xs[i] ∧ xs[i] < m.Symbols
      · have h3 : ¬ (xs[i] < 0 ∨ m.Symbols ≤ xs[i]) := by omega
        simp [celB, hb]
        intro hh; exact absurd hh h3
      · have h3 : (xs[i] < 0 ∨ m.Symbols ≤ xs[i]) := by omega
        simp [celB, hb, h3]
    · have h' : ¬ (i : Int) < (xs.length : Int) := by omega
      rw [dif_neg h, if_neg (by simpa using h')]) xs.length k 0 (by simp) hk
  simpa using this
theorem contains_fits (m : Machine) (xs : List Int) (hl : xs.length ≤ 1000000) (k : Nat) (hk : xs.length < k) :
    slices_ContainsFunc_int_int_with_machine_Fits_1 k xs m = some (!xs.all (celB m)) := by
  unfold slices_ContainsFunc_int_int_with_machine_Fits_1 slices_IndexFunc_int_int_with_machine_Fits_1
  rw [idx_fits m xs hl k hk]
  have := firstS_ge (p := celB m) xs 0
  rw [← this]
  cases firstS (fun i a => if celB m a = true then none else some (i : Int)) 0 xs <;> simp [fin, sumb]
theorem fits1 (m : Machine) (c : Config) (k : Nat) (hk : 201 ≤ k) : machine_Fits k m c = some (fitsB m c) := by
  unfold machine_Fits
  rw [valid1 m k (by omega)]
  unfold fitsB placeB
  cases hv : validB m
  · simp
  · by_cases h : 0 ≤ c.State ∧ c.State < m.States ∧ 1 ≤ (c.Cells.length : Int) ∧ (c.Cells.length : Int) ≤ 200 ∧ 0 ≤ c.At ∧ c.At < (c.Cells.length : Int)
    · rw [Option.bind_some, if_pos (by simp; omega), contains_fits m c.Cells (by omega) k (by omega)]
      simp [h]
    · rw [Option.bind_some, if_neg (by simp; omega)]
      simp [h]
theorem ref_fits_loop (m : Machine) (c : Config) (hl : c.Cells.length ≤ 1000000) (k : Nat) (hk : c.Cells.length < k) :
    ref08_Fits.l0 k 0 m c = some (fin (firstS (fun _ a => if celB m a = true then none else some false) 0 c.Cells)) := by
  have := scan (F := fun k i => ref08_Fits.l0 k i m c) (xs := c.Cells) (g := fun _ a => if celB m a = true then none else some false) (fun k i hi => by
    show ref08_Fits.l0 (k + 1) i m c = _
    rw [ref08_Fits.l0]
    by_cases h : i < c.Cells.length
    · have h' : (i : Int) < (c.Cells.length : Int) := by omega
      have h2 : 0 ≤ (i : Int) ∧ (i : Int) < (c.Cells.length : Int) := by omega
      rw [dif_pos h, if_pos (by simpa using h'), if_pos h2, if_pos h2, rdD_get h, w64_id (by omega) (by omega)]
      by_cases h0 : c.Cells[i] < 0
      · have : ¬ (0 ≤ c.Cells[i] ∧ c.Cells[i] < m.Symbols) := by omega
        simp [h0, celB, this]
      · by_cases h1 : m.Symbols ≤ c.Cells[i]
        · have : ¬ (0 ≤ c.Cells[i] ∧ c.Cells[i] < m.Symbols) := by omega
          simp [h0, h1, celB, this]
        · have : (0 ≤ c.Cells[i] ∧ c.Cells[i] < m.Symbols) := by omega
          simp [h0, h1, celB, this]
    · have h' : ¬ (i : Int) < (c.Cells.length : Int) := by omega
      rw [dif_neg h, if_neg (by simpa using h')]) c.Cells.length k 0 (by simp) hk
  simpa using this
theorem fits2 (m : Machine) (c : Config) (k : Nat) (hk : 201 ≤ k) : ref08_Fits k m c = some (fitsB m c) := by
  unfold ref08_Fits
  rw [valid2 m k (by omega)]
  unfold fitsB placeB
  cases hv : validB m
  · simp
  · by_cases h : 0 ≤ c.State ∧ c.State < m.States ∧ 1 ≤ (c.Cells.length : Int) ∧ (c.Cells.length : Int) ≤ 200 ∧ 0 ≤ c.At ∧ c.At < (c.Cells.length : Int)
    · rw [Option.bind_some, if_neg (by simp; omega), ref_fits_loop m c (by omega) k (by omega), firstS_const]
      cases c.Cells.all (celB m) <;> simp [h, fin, sumb]
    · rw [Option.bind_some, if_pos (by simp; omega)]
      simp [h]
/-! equality -/
theorem same_loop (a b : Config) (hab : a.Cells.length = b.Cells.length) (hl : a.Cells.length ≤ 1000000) (k : Nat) (hk : a.Cells.length < k) :
    ref08_SameConfig.l0 k 0 a b = some (fin (firstS (fun i x => if x = b.Cells.getD i 0 then none else some false) 0 a.Cells)) := by
  have := scan (F := fun k i => ref08_SameConfig.l0 k i a b) (xs := a.Cells) (g := fun i x => if x = b.Cells.getD i 0 then none else some false) (fun k i hi => by
    show ref08_SameConfig.l0 (k + 1) i a b = _
    rw [ref08_SameConfig.l0]
    by_cases h : i < a.Cells.length
    · have h' : (i : Int) < (a.Cells.length : Int) := by omega
      have h2 : 0 ≤ (i : Int) ∧ (i : Int) < (a.Cells.length : Int) := by omega
      have h3 : 0 ≤ (i : Int) ∧ (i : Int) < (b.Cells.length : Int) := by omega
      rw [dif_pos h, if_pos (by simpa using h'), if_pos h2, if_pos h3, rdD_get h, rdD_nat, w64_id (by omega) (by omega)]
      by_cases he : a.Cells[i] = b.Cells.getD i 0 <;> simp only [he, bne_self_eq_false, if_true, if_false, Bool.false_eq_true, bne_iff_ne, ne_eq, not_false_eq_true, not_true_eq_false] <;> rfl
    · have h' : ¬ (i : Int) < (a.Cells.length : Int) := by omega
      rw [dif_neg h, if_neg (by simpa using h')]) a.Cells.length k 0 (by simp) hk
  simpa using this
theorem firstS_eq (b : List Int) : ∀ (a : List Int) (i : Nat), i + a.length = b.length → firstS (fun i x => if x = b.getD i 0 then none else some false) i a = if a = b.drop i then none else some false
  | [], i, h => by
    have : b.drop i = [] := List.drop_eq_nil_of_le (by simp at h; omega)
    simp [firstS, this]
  | x :: r, i, h => by
    have hi : i < b.length := by simp at h; omega
    rw [firstS, List.drop_eq_getElem_cons hi, firstS_eq b r (i + 1) (by simp at h; omega)]
    have hg : b.getD i 0 = b[i] := by simp [List.getD, List.getElem?_eq_getElem hi]
    rw [hg]
    by_cases hx : x = b[i]
    · subst hx
      rw [if_pos rfl]
      by_cases hr : r = b.drop (i + 1)
      · rw [if_pos hr, if_pos (by rw [hr])]
      · rw [if_neg hr, if_neg (fun h => hr (List.cons.inj h).2)]
    · rw [if_neg hx, if_neg (fun h => hx (List.cons.inj h).1)]
theorem same_eq (a b : Config) (hl : a.Cells.length ≤ 1000000) (k : Nat) (hk : a.Cells.length < k) : ref08_SameConfig k a b = some (decide (a = b)) := by
  unfold ref08_SameConfig
  by_cases h1 : a.State = b.State
  · by_cases h2 : a.At = b.At
    · by_cases h3 : a.Cells.length = b.Cells.length
      · rw [if_neg (by simp [h1, h2, h3]), same_loop a b h3 hl k hk, firstS_eq b.Cells a.Cells 0 (by simpa using h3)]
        by_cases h4 : a.Cells = b.Cells
        · have : a = b := by cases a; cases b; simp_all
          simp [this, fin, sumb]
        · have : a ≠ b := fun h => h4 (by rw [h])
          simp [h4, this, fin, sumb]
      · have : a ≠ b := fun h => h3 (by rw [h])
        rw [if_pos (by simp; omega)]; simp [this]
    · have : a ≠ b := fun h => h2 (by rw [h])
      rw [if_pos (by simp [h2])]; simp [this]
  · have : a ≠ b := fun h => h1 (by rw [h])
    rw [if_pos (by simp [h1])]; simp [this]
end Gp
set_option linter.unusedVariables false
set_option linter.unusedSimpArgs false
namespace Gp
open Gw Gq
/-! ### steps -/
def zC : Config := ⟨0, 0, []⟩
def actOf (m : Machine) (c : Config) : Action := rdD m.Actions (c.State * m.Symbols + rdD c.Cells c.At 0) z_Action
def toOf (m : Machine) (c : Config) : Int := c.At + 2 * (actOf m c).Move - 1
def nextC (m : Machine) (c : Config) : Config := ⟨(actOf m c).Next, toOf m c, c.Cells.set c.At.toNat (actOf m c).Write⟩
def noStep (m : Machine) (c : Config) : Int := if (actOf m c).Next = m.States then 5 else if toOf m c < 0 ∨ (c.Cells.length : Int) ≤ toOf m c then 6 else 0
structure Fit (m : Machine) (c : Config) : Prop where
  dim : 1 ≤ m.States ∧ m.States ≤ 6 ∧ 2 ≤ m.Symbols ∧ m.Symbols ≤ 4
  len : (m.Actions.length : Int) = m.States * m.Symbols
  act : ∀ a ∈ m.Actions, actB m a = true
  place : 0 ≤ c.State ∧ c.State < m.States ∧ 1 ≤ (c.Cells.length : Int) ∧ (c.Cells.length : Int) ≤ 200 ∧ 0 ≤ c.At ∧ c.At < (c.Cells.length : Int)
  cel : ∀ s ∈ c.Cells, 0 ≤ s ∧ s < m.Symbols
theorem fit_of {m : Machine} {c : Config} (h : fitsB m c = true) : Fit m c := by
  unfold fitsB validB dimB placeB at h
  simp only [Bool.and_eq_true, decide_eq_true_eq, List.all_eq_true] at h
  obtain ⟨⟨⟨h1, h2⟩, h3⟩, h4⟩ := h
  exact ⟨⟨h1.1, h1.2.1, h1.2.2.1, h1.2.2.2.1⟩, h1.2.2.2.2, h2, h3, fun s hs => by have := h4 s hs; simpa [celB] using this⟩
theorem of_fit {m : Machine} {c : Config} (h : Fit m c) : fitsB m c = true := by
  unfold fitsB validB dimB placeB
  simp only [Bool.and_eq_true, decide_eq_true_eq, List.all_eq_true]
  exact ⟨⟨⟨⟨h.dim.1, h.dim.2.1, h.dim.2.2.1, h.dim.2.2.2, h.len⟩, h.act⟩, h.place⟩, fun s hs => by have := h.cel s hs; simpa [celB] using this⟩
theorem rdD_mem {α : Type} {xs : List α} {i : Int} (h0 : 0 ≤ i) (h1 : i < (xs.length : Int)) (d : α) : rdD xs i d ∈ xs := by
  have : i.toNat < xs.length := by omega
  unfold rdD
  rw [List.getD_eq_getElem?_getD, List.getElem?_eq_getElem this]
  simp
theorem Fit.cell {m : Machine} {c : Config} (h : Fit m c) : 0 ≤ rdD c.Cells c.At 0 ∧ rdD c.Cells c.At 0 < m.Symbols := h.cel _ (rdD_mem h.place.2.2.2.2.1 h.place.2.2.2.2.2 0)
theorem Fit.state {m : Machine} {c : Config} (h : Fit m c) {s : Int} (hs : 0 ≤ s ∧ s < m.Symbols) {q : Int} (hq : 0 ≤ q ∧ q < m.States) : 0 ≤ q * m.Symbols + s ∧ q * m.Symbols + s < (m.Actions.length : Int) ∧ q * m.Symbols + s < 24 ∧ 0 ≤ q * m.Symbols ∧ q * m.Symbols < 24 := by
  have hd := h.dim
  have hl := h.len
  have hp := dim_w64 hd
  have hm : (q + 1) * m.Symbols ≤ m.States * m.Symbols := Int.mul_le_mul_of_nonneg_right (by omega) (by omega)
  have h0 : 0 ≤ q * m.Symbols := Int.mul_nonneg hq.1 (by omega)
  rw [Int.add_mul, Int.one_mul] at hm
  refine ⟨by omega, by rw [hl]; omega, by omega, h0, by omega⟩
theorem Fit.idx {m : Machine} {c : Config} (h : Fit m c) : 0 ≤ c.State * m.Symbols + rdD c.Cells c.At 0 ∧ c.State * m.Symbols + rdD c.Cells c.At 0 < (m.Actions.length : Int) ∧ c.State * m.Symbols + rdD c.Cells c.At 0 < 24 ∧ 0 ≤ c.State * m.Symbols ∧ c.State * m.Symbols < 24 :=
  h.state h.cell ⟨h.place.1, h.place.2.1⟩
theorem Fit.widx {m : Machine} {c : Config} (h : Fit m c) : w64 (w64 (c.State * m.Symbols) + rdD c.Cells c.At 0) = c.State * m.Symbols + rdD c.Cells c.At 0 := by
  have hi := h.idx
  rw [w64_id (n := c.State * m.Symbols) (by omega) (by omega), w64_id (by omega) (by omega)]
theorem Fit.actOf {m : Machine} {c : Config} (h : Fit m c) : actB m (actOf m c) = true := h.act _ (rdD_mem h.idx.1 h.idx.2.1 _)
theorem actB_cases {m : Machine} {a : Action} (h : actB m a = true) : (a.Next = m.States ∧ a.Write = 0 ∧ a.Move = 0) ∨ (a.Next ≠ m.States ∧ 0 ≤ a.Write ∧ a.Write < m.Symbols ∧ (a.Move = 0 ∨ a.Move = 1) ∧ 0 ≤ a.Next ∧ a.Next < m.States) := by
  unfold actB at h
  split at h
  · rename_i hn
    simp only [Bool.and_eq_true, beq_iff_eq] at h
    exact .inl ⟨hn, h.1, h.2⟩
  · rename_i hn
    simp only [decide_eq_true_eq] at h
    exact .inr ⟨hn, h.1, h.2.1, by omega, h.2.2.2.2.1, h.2.2.2.2.2⟩
theorem Fit.move {m : Machine} {c : Config} (h : Fit m c) : (Gp.actOf m c).Move = 0 ∨ (Gp.actOf m c).Move = 1 := by
  rcases actB_cases h.actOf with h | h
  · exact .inl h.2.2
  · exact h.2.2.2.1
theorem Fit.next {m : Machine} {c : Config} (h : Fit m c) (hs : noStep m c = 0) : Fit m (nextC m c) := by
  unfold noStep at hs
  split at hs
  · cases hs
  · rename_i hn
    split at hs
    · cases hs
    · rename_i ht
      rcases actB_cases h.actOf with ha | ha
      · exact absurd ha.1 hn
      · refine ⟨h.dim, h.len, h.act, ?_, fun s hs => ?_⟩
        · have := h.place
          simp only [nextC, List.length_set]
          exact ⟨ha.2.2.2.2.1, ha.2.2.2.2.2, by omega, by omega, by omega, by omega⟩
        · rcases List.mem_or_eq_of_mem_set hs with h1 | h1
          · exact h.cel s h1
          · rw [h1]; exact ⟨ha.2.1, ha.2.2.1⟩
theorem does_eq {m : Machine} {c : Config} (h : Fit m c) : machine_runner_does ⟨m, c⟩ = some (c.State * m.Symbols + rdD c.Cells c.At 0) := by
  unfold machine_runner_does
  rw [if_pos ⟨h.place.2.2.2.2.1, h.place.2.2.2.2.2⟩, h.widx]
theorem Fit.wto {m : Machine} {c : Config} (h : Fit m c) : w64 (w64 (c.At + w64 (2 * (Gp.actOf m c).Move)) - 1) = toOf m c := by
  have hm := h.move
  have hp := h.place
  rw [w64_id (n := 2 * (Gp.actOf m c).Move) (by omega) (by omega), w64_id (n := c.At + 2 * (Gp.actOf m c).Move) (by omega) (by omega), w64_id (by omega) (by omega)]; rfl
theorem rstep_eq {m : Machine} {c : Config} (h : Fit m c) : machine_runner_step ⟨m, c⟩ = some (noStep m c, ⟨m, if noStep m c = 0 then nextC m c else c⟩) := by
  unfold machine_runner_step
  have hi := h.idx
  rw [does_eq h, Option.bind_some, if_pos ⟨hi.1, hi.2.1⟩, Option.bind_some]
  show (if ((actOf m c).Next == m.States) = true then _ else _) = _
  simp only
  rw [show (rdD m.Actions (c.State * m.Symbols + rdD c.Cells c.At 0) z_Action) = actOf m c from rfl, h.wto]
  unfold noStep
  by_cases hn : (actOf m c).Next = m.States
  · simp [hn]
  · rw [if_neg (by simpa using hn)]
    by_cases ht : toOf m c < 0 ∨ (c.Cells.length : Int) ≤ toOf m c
    · rw [if_pos (by simpa [ge_iff_le] using ht)]; simp [hn, ht]
    · rw [if_neg (by simpa [ge_iff_le] using ht), if_pos ⟨h.place.2.2.2.2.1, h.place.2.2.2.2.2⟩]; simp [hn, ht, nextC]
theorem clone_eq {xs : List Int} (h : xs.length ≤ 1000000) : slices_Clone_int_int xs = some xs := by
  unfold slices_Clone_int_int slices_Clone_int_int_some
  rw [if_pos (by simp; omega)]; rfl
theorem begin_eq {m : Machine} {c : Config} (h : c.Cells.length ≤ 1000000) : machine_begin m c = some ⟨m, c⟩ := by
  unfold machine_begin
  rw [clone_eq h]; rfl
def stepS (m : Machine) (c : Config) : Config × Int := if noStep m c = 0 then (nextC m c, 0) else (zC, noStep m c)
theorem step1 {m : Machine} {c : Config} {k : Nat} (hk : 201 ≤ k) : machine_Step k m c = some (if fitsB m c = true then stepS m c else (zC, 1)) := by
  unfold machine_Step
  rw [fits1 m c k hk, Option.bind_some]
  cases hf : fitsB m c
  · rfl
  · have h := fit_of hf
    have hp := h.place
    rw [if_neg (by simp), begin_eq (by omega), Option.bind_some]
    show (machine_runner_step ⟨m, c⟩).bind _ = _
    rw [rstep_eq h, Option.bind_some]
    unfold stepS
    by_cases hn : noStep m c = 0
    · simp [hn]
    · simp [hn, zC]
/-! ### runs -/
def runS (m : Machine) : Nat → Config → Config × Nat
  | 0, c => (c, 0)
  | n + 1, c => if noStep m c = 0 then ((runS m n (nextC m c)).1, (runS m n (nextC m c)).2 + 1) else (c, 0)
theorem run_fit {m : Machine} : ∀ (n : Nat) {c : Config}, Fit m c → Fit m (runS m n c).1
  | 0, c, h => h
  | n + 1, c, h => by
    rw [runS]
    split
    · rename_i hn; exact run_fit n (h.next hn)
    · exact h
theorem run_le {m : Machine} : ∀ (n : Nat) (c : Config), (runS m n c).2 ≤ n
  | 0, c => Nat.le_refl _
  | n + 1, c => by
    rw [runS]
    split
    · have := run_le (m := m) n (nextC m c); simp only; omega
    · simp
theorem run1_loop {m : Machine} {n : Int} (hn : n ≤ 1000000) : ∀ (d k : Nat) (i : Int) (c : Config), 0 ≤ i → i + d = n → d < k → Fit m c →
    machine_Run.l0 k m.States m.Symbols c.State c.At c.Cells i m n = some (m.States, m.Symbols, (runS m d c).1.State, (runS m d c).1.At, (runS m d c).1.Cells, i + (runS m d c).2)
  | 0, k, i, c, h0, hd, hk, h => by
    obtain ⟨k, rfl⟩ : ∃ m, k = m + 1 := ⟨k - 1, by omega⟩
    rw [machine_Run.l0, if_neg (by simp; omega)]
    simp [runS]
  | d + 1, k, i, c, h0, hd, hk, h => by
    obtain ⟨k, rfl⟩ : ∃ m, k = m + 1 := ⟨k - 1, by omega⟩
    rw [machine_Run.l0, if_pos (by simp; omega)]
    rw [show (Runner.mk (Machine.mk m.States m.Symbols m.Actions) (Config.mk c.State c.At c.Cells)) = ⟨m, c⟩ from rfl, rstep_eq h, Option.bind_some, Option.bind_some]
    rw [runS]
    by_cases hs : noStep m c = 0
    · simp only [hs, if_true, beq_self_eq_true]
      rw [w64_id (by omega) (by omega)]
      have := run1_loop hn d k (i + 1) (nextC m c) (by omega) (by omega) (by omega) (h.next hs)
      rw [this]
      simp only [Option.some.injEq, Prod.mk.injEq, true_and]
      push_cast; omega
    · simp [hs]
theorem run1 {m : Machine} {c : Config} {n : Int} {k : Nat} (hk : 201 ≤ k) (hk2 : n.toNat < k) (hn : n ≤ 1000000) (h0 : 0 ≤ n) (hn2 : n ≤ 100000) (h : Fit m c) :
    machine_Run k m c n = some ((runS m n.toNat c).1, ((runS m n.toNat c).2 : Int), 0) := by
  unfold machine_Run
  rw [fits1 m c k hk, Option.bind_some, of_fit h, if_neg (by simp), if_neg (by simp; omega), begin_eq (by have := h.place; omega), Option.bind_some]
  rw [run1_loop hn n.toNat k 0 c (by omega) (by omega) hk2 h]
  simp
end Gp
set_option linter.unusedVariables false
set_option linter.unusedSimpArgs false
namespace Gp
open Gw Gq
theorem stepS_len {m : Machine} {c : Config} (h : Fit m c) : (stepS m c).1.Cells.length ≤ 200 := by
  unfold stepS
  have := h.place
  split
  · simp [nextC]; omega
  · simp [zC]
end Gp
set_option linter.unusedVariables false
set_option linter.unusedSimpArgs false
namespace Gq
theorem loop_to {σ τ : Type} {F : Nat → Int → σ → Option τ} {S : Nat → σ} {n K : Nat} {r : τ} (hs : ∀ k i, K ≤ k → i < n → F (k + 1) (i : Int) (S i) = F k ((i + 1 : Nat) : Int) (S (i + 1))) (he : ∀ k, F (k + 1) (n : Int) (S n) = some r) :
    ∀ k, n + K < k → F k 0 (S 0) = some r := by
  have key : ∀ d i k, i + d = n → d + K < k → F k (i : Int) (S i) = some r := by
    intro d
    induction d with
    | zero =>
      intro i k hi hk
      obtain ⟨k, rfl⟩ : ∃ m, k = m + 1 := ⟨k - 1, by omega⟩
      have : i = n := by omega
      subst this; exact he k
    | succ d ih =>
      intro i k hi hk
      obtain ⟨k, rfl⟩ : ∃ m, k = m + 1 := ⟨k - 1, by omega⟩
      rw [hs k i (by omega) (by omega)]
      exact ih (i + 1) k (by omega) (by omega)
  intro k hk
  exact key n 0 k (by omega) hk
theorem range_mul {α : Type} (f : Nat → List α) (Y : Nat) : ∀ S : Nat, (List.range (S * Y)).flatMap f = (List.range S).flatMap fun q => (List.range Y).flatMap fun s => f (q * Y + s)
  | 0 => by simp
  | S + 1 => by
    rw [Nat.add_mul, Nat.one_mul, List.range_add, List.flatMap_append, range_mul f Y S, List.range_succ, List.flatMap_append, List.flatMap_map]
    simp
theorem flat_succ {α : Type} (f : Nat → List α) (n : Nat) : (List.range (n + 1)).flatMap f = (List.range n).flatMap f ++ f n := by
  rw [List.range_succ, List.flatMap_append]; simp
theorem map_succ {α : Type} (f : Nat → α) (n : Nat) : (List.range (n + 1)).map f = (List.range n).map f ++ [f n] := by
  rw [List.range_succ, List.map_append]; simp
theorem flat_len1 {α : Type} {f : Nat → List α} {b : Nat} (hf : ∀ i, (f i).length ≤ b) : ∀ n, ((List.range n).flatMap f).length ≤ n * b
  | 0 => by simp
  | n + 1 => by
    rw [flat_succ, List.length_append, Nat.add_mul, Nat.one_mul]
    have := flat_len1 hf n
    have := hf n
    omega
end Gq
namespace Gp
open Gw Gq
/-! ### the tiles of a machine -/
structure Val (m : Machine) (S Y : Nat) : Prop where
  sS : m.States = S
  sY : m.Symbols = Y
  dS : 1 ≤ S ∧ S ≤ 6
  dY : 2 ≤ Y ∧ Y ≤ 4
  len : m.Actions.length = S * Y
  act : ∀ a ∈ m.Actions, actB m a = true
theorem val_of {m : Machine} (h : validB m = true) : ∃ S Y, Val m S Y := by
  unfold validB dimB at h
  simp only [Bool.and_eq_true, decide_eq_true_eq, List.all_eq_true] at h
  obtain ⟨⟨h1, h2, h3, h4, h5⟩, h6⟩ := h
  refine ⟨m.States.toNat, m.Symbols.toNat, by omega, by omega, by omega, by omega, ?_, h6⟩
  have : ((m.States.toNat * m.Symbols.toNat : Nat) : Int) = m.States * m.Symbols := by rw [Int.natCast_mul, Int.toNat_of_nonneg (by omega), Int.toNat_of_nonneg (by omega)]
  omega
theorem Val.le {m : Machine} {S Y : Nat} (v : Val m S Y) : S * Y ≤ 24 := by
  have := Nat.mul_le_mul v.dS.2 v.dY.2; omega
theorem Val.get {m : Machine} {S Y : Nat} (v : Val m S Y) {i : Nat} (hi : i < S * Y) : actB m (m.Actions.getD i z_Action) = true := by
  have h : i < m.Actions.length := by rw [v.len]; exact hi
  refine v.act _ ?_
  simp [List.getElem?_eq_getElem h]
def hd (Y q s : Nat) : Int := ((Y + q * Y + s : Nat) : Int)
theorem head_eq {m : Machine} {S Y : Nat} (v : Val m S Y) {q s : Nat} (hq : q ≤ S) (hs : s ≤ Y) : machine_head m q s = some (hd Y q s) := by
  have h1 := v.dS; have h2 := v.dY
  have : q * Y ≤ 24 := by have := Nat.mul_le_mul (show q ≤ 6 by omega) h2.2; omega
  unfold machine_head hd
  rw [v.sY, w64_id (n := (q : Int) * Y) (by rw [← Int.natCast_mul]; omega) (by rw [← Int.natCast_mul]; omega), ← Int.natCast_mul, w64_id (n := (Y : Int) + (q * Y : Nat)) (by omega) (by omega), w64_id (by omega) (by omega)]
  congr 1
def symT (s : Nat) : Tile := ⟨s, 0, s, 0⟩
def actT (S Y q s : Nat) (a : Action) : Tile := if a.Move = 0 then ⟨a.Write, 0, hd Y q s, 1 + S + a.Next⟩ else ⟨a.Write, 1 + a.Next, hd Y q s, 0⟩
def actL (m : Machine) (S Y i : Nat) : List Tile := if (m.Actions.getD i z_Action).Next = S then [] else [actT S Y (i / Y) (i % Y) (m.Actions.getD i z_Action)]
def arrL (S Y q s : Nat) : List Tile := [⟨hd Y q s, 0, s, 1 + q⟩, ⟨hd Y q s, 1 + S + q, s, 0⟩]
def symL (Y n : Nat) : List Tile := (List.range n).map symT
def set1 (m : Machine) (S Y n : Nat) : List Tile := symL Y Y ++ (List.range n).flatMap (actL m S Y)
def setS (m : Machine) (S Y : Nat) : List Tile := set1 m S Y (S * Y) ++ (List.range S).flatMap fun q => (List.range Y).flatMap (arrL S Y q)
def doesAt (m : Machine) (S Y i : Nat) : Int := if (m.Actions.getD i z_Action).Next = S then -1 else ((set1 m S Y i).length : Int)
def doesS (m : Machine) (S Y n : Nat) : List Int := (List.range n).map (doesAt m S Y)
theorem actL_len (m : Machine) (S Y i : Nat) : (actL m S Y i).length ≤ 1 := by unfold actL; split <;> simp
theorem set1_len (m : Machine) {S Y : Nat} (hY : Y ≤ 4) (n : Nat) : (set1 m S Y n).length ≤ 4 + n := by
  unfold set1 symL
  have := flat_len1 (actL_len m S Y) n
  rw [List.length_append, List.length_map, List.length_range]; omega
theorem kit_l0 {m : Machine} {S Y : Nat} (v : Val m S Y) {k : Nat} (hk : Y < k) : machine_kitOf.l0 k [] 0 m = some (symL Y Y) := by
  have := loop_to (F := fun k i l => machine_kitOf.l0 k l i m) (S := symL Y) (n := Y) (K := 0) (r := symL Y Y) (fun k i _ hi => by
    have hd := v.dY
    show machine_kitOf.l0 (k + 1) (symL Y i) i m = _
    rw [machine_kitOf.l0, if_pos (by rw [v.sY]; simpa using hi), if_pos (by simp [symL]; omega), w64_id (by omega) (by omega)]
    unfold symL
    rw [map_succ]; rfl) (fun k => by
    show machine_kitOf.l0 (k + 1) (symL Y Y) Y m = _
    rw [machine_kitOf.l0, if_neg (by rw [v.sY]; simp)]) k (by omega)
  exact this
theorem acts_eq {m : Machine} {S Y : Nat} (v : Val m S Y) {i : Nat} (hi : i < S * Y) (st : List Tile) (ds : List Int) (b : Int) (hn : (m.Actions.getD i z_Action).Next ≠ S) :
    machine_kit_acts ⟨m, st, ds, b⟩ ((i / Y : Nat) : Int) ((i % Y : Nat) : Int) (m.Actions.getD i z_Action) = some (actT S Y (i / Y) (i % Y) (m.Actions.getD i z_Action)) := by
  have h1 := v.dS; have h2 := v.dY
  have hq : i / Y < S := Nat.div_lt_of_lt_mul (by rw [Nat.mul_comm]; exact hi)
  have hs : i % Y < Y := Nat.mod_lt _ (by omega)
  have ha := actB_cases (v.get hi)
  rw [v.sS, v.sY] at ha
  generalize m.Actions.getD i z_Action = a at ha hn ⊢
  rcases ha with ha | ha
  · exact absurd ha.1 hn
  · obtain ⟨_, _, _, hm, h5, h6⟩ := ha
    unfold machine_kit_acts machine_kit_signal actT
    rw [show (Kit.mk m st ds b).m = m from rfl, head_eq v (by omega) (by omega), v.sS]
    rcases hm with hm | hm
    · simp only [hm, Option.bind_some, beq_self_eq_true, if_true]
      rw [if_neg (by simp), w64_id (n := 1 + (S : Int)) (by omega) (by omega), w64_id (by omega) (by omega)]; rfl
    · simp only [hm, Option.bind_some, beq_self_eq_true, if_true]
      rw [w64_id (by omega) (by omega)]; rfl
theorem kit_l1 {m : Machine} {S Y : Nat} (v : Val m S Y) {k : Nat} (hk : S * Y < k) : machine_kitOf.l1 k (symL Y Y) [] 0 m = some (set1 m S Y (S * Y), doesS m S Y (S * Y)) := by
  have := loop_to (F := fun k i (l : List Tile × List Int) => machine_kitOf.l1 k l.1 l.2 i m) (S := fun i => (set1 m S Y i, doesS m S Y i)) (n := S * Y) (K := 0) (r := (set1 m S Y (S * Y), doesS m S Y (S * Y))) (fun k i _ hi => by
    have h24 := v.le
    have hdY := v.dY
    show machine_kitOf.l1 (k + 1) (set1 m S Y i) (doesS m S Y i) i m = machine_kitOf.l1 k (set1 m S Y (i + 1)) (doesS m S Y (i + 1)) ((i + 1 : Nat) : Int) m
    have hl1 := set1_len m (S := S) hdY.2 i
    have hl2 : (doesS m S Y i).length = i := by simp [doesS]
    rw [machine_kitOf.l1, if_pos (by rw [v.len, decide_eq_true_eq]; omega), if_pos (by rw [v.len]; omega), rdD_nat, v.sS, v.sY]
    by_cases hn : (m.Actions.getD i z_Action).Next = S
    · rw [if_pos (by simpa using hn), if_pos (by simp [hl2]; omega), Option.bind_some, w64_id (by omega) (by omega)]
      have e1 : set1 m S Y (i + 1) = set1 m S Y i := by unfold set1; rw [flat_succ, actL, if_pos hn, List.append_nil]
      have e2 : doesS m S Y (i + 1) = doesS m S Y i ++ [-1] := by unfold doesS; rw [map_succ, doesAt, if_pos hn]
      rw [e1, e2]; rfl
    · have hdiv : w64 (Int.tdiv (i : Int) (Y : Int)) = ((i / Y : Nat) : Int) := by
        have : Int.tdiv (i : Int) (Y : Int) = ((i / Y : Nat) : Int) := rfl
        have h3 : ((i / Y : Nat) : Int) ≤ i := by exact_mod_cast Nat.div_le_self _ _
        have h4 : 0 ≤ ((i / Y : Nat) : Int) := Int.natCast_nonneg _
        rw [this]
        generalize ((i / Y : Nat) : Int) = z at h3 h4 ⊢
        exact w64_id (by omega) (by omega)
      have hmod : Int.tmod (i : Int) (Y : Int) = ((i % Y : Nat) : Int) := rfl
      rw [if_neg (by simpa using hn), if_pos (by simp [hl2]; omega), if_pos (by omega), hdiv, hmod, acts_eq v hi _ _ _ hn, Option.bind_some, if_pos (by simp; omega), Option.bind_some, w64_id (by omega) (by omega)]
      have e1 : set1 m S Y (i + 1) = set1 m S Y i ++ [actT S Y (i / Y) (i % Y) (m.Actions.getD i z_Action)] := by unfold set1; rw [flat_succ, actL, if_neg hn, List.append_assoc]
      have e2 : doesS m S Y (i + 1) = doesS m S Y i ++ [((set1 m S Y i).length : Int)] := by unfold doesS; rw [map_succ, doesAt, if_neg hn]
      rw [e1, e2]; rfl) (fun k => by
    show machine_kitOf.l1 (k + 1) (set1 m S Y (S * Y)) (doesS m S Y (S * Y)) ((S * Y : Nat) : Int) m = _
    rw [machine_kitOf.l1, if_neg (by rw [v.len]; simp)]) k (by omega)
  have e0 : set1 m S Y 0 = symL Y Y := by simp [set1]
  have e1 : doesS m S Y 0 = [] := by simp [doesS]
  rw [show (machine_kitOf.l1 k (symL Y Y) [] 0 m) = machine_kitOf.l1 k (set1 m S Y 0) (doesS m S Y 0) 0 m from by rw [e0, e1]]
  exact this
end Gp
set_option linter.unusedVariables false
set_option linter.unusedSimpArgs false
namespace Gp
open Gw Gq
def set2 (m : Machine) (S Y n : Nat) : List Tile := set1 m S Y (S * Y) ++ (List.range n).flatMap fun q => (List.range Y).flatMap (arrL S Y q)
theorem arr_len (S Y q n : Nat) : ((List.range n).flatMap (arrL S Y q)).length ≤ n * 2 := flat_len1 (fun i => by simp [arrL]) n
theorem arrs_len (S Y n : Nat) : ((List.range n).flatMap fun q => (List.range Y).flatMap (arrL S Y q)).length ≤ n * (Y * 2) := flat_len1 (fun q => arr_len S Y q Y) n
theorem set2_len {m : Machine} {S Y : Nat} (v : Val m S Y) {n : Nat} (hn : n ≤ S) : (set2 m S Y n).length ≤ 1000 := by
  have h1 := set1_len m (S := S) v.dY.2 (S * Y)
  have h2 := arrs_len S Y n
  have h3 := v.le
  have h4 : n * (Y * 2) ≤ 6 * 8 := Nat.mul_le_mul (by have := v.dS; omega) (by have := v.dY; omega)
  unfold set2
  rw [List.length_append]; omega
theorem signal_eq {m : Machine} {S Y : Nat} (v : Val m S Y) {q : Nat} (hq : q < S) (st : List Tile) (ds : List Int) (b : Int) : machine_kit_signal ⟨m, st, ds, b⟩ 1 q = some (1 + (q : Int)) ∧ machine_kit_signal ⟨m, st, ds, b⟩ 0 q = some (1 + (S : Int) + q) := by
  have h1 := v.dS
  unfold machine_kit_signal
  rw [v.sS]
  refine ⟨?_, ?_⟩
  · rw [if_pos (by simp), w64_id (by omega) (by omega)]
  · rw [if_neg (by simp), w64_id (n := 1 + (S : Int)) (by omega) (by omega), w64_id (by omega) (by omega)]
theorem kit_l3 {m : Machine} {S Y : Nat} (v : Val m S Y) {q : Nat} (hq : q < S) (x : List Tile × List Int) {k : Nat} (hk : Y < k) :
    machine_kitOf.l3 k (set2 m S Y q) 0 m x q = some (set2 m S Y (q + 1)) := by
  have hl0 := set2_len v (n := q) (by omega)
  have := loop_to (F := fun k i l => machine_kitOf.l3 k l i m x q) (S := fun i => set2 m S Y q ++ (List.range i).flatMap (arrL S Y q)) (n := Y) (K := 0) (r := set2 m S Y (q + 1)) (fun k i _ hi => by
    have hd := v.dY
    show machine_kitOf.l3 (k + 1) (set2 m S Y q ++ (List.range i).flatMap (arrL S Y q)) i m x q = _
    have hl := arr_len S Y q i
    have hs := signal_eq v hq (set2 m S Y q ++ (List.range i).flatMap (arrL S Y q)) x.2 (x.1.length : Int)
    rw [machine_kitOf.l3, if_pos (by rw [v.sY]; simpa using hi), head_eq v (by omega) (by omega), Option.bind_some, hs.1, Option.bind_some, hs.2, Option.bind_some, if_pos (by rw [List.length_append]; simp only [List.length_cons, List.length_nil]; omega), w64_id (by omega) (by omega), flat_succ, ← List.append_assoc]
    rfl) (fun k => by
    show machine_kitOf.l3 (k + 1) (set2 m S Y q ++ (List.range Y).flatMap (arrL S Y q)) Y m x q = _
    rw [machine_kitOf.l3, if_neg (by rw [v.sY]; simp)]
    unfold set2
    rw [flat_succ, List.append_assoc]) k (by omega)
  simpa using this
theorem kit_l2 {m : Machine} {S Y : Nat} (v : Val m S Y) (x : List Tile × List Int) {k : Nat} (hk : S + 5 < k) :
    machine_kitOf.l2 k (set2 m S Y 0) 0 m x = some (set2 m S Y S) :=
  loop_to (F := fun k i l => machine_kitOf.l2 k l i m x) (S := set2 m S Y) (n := S) (K := 5) (r := set2 m S Y S) (fun k i hk hi => by
    have hd := v.dS
    have hY := v.dY
    show machine_kitOf.l2 (k + 1) (set2 m S Y i) i m x = _
    rw [machine_kitOf.l2, if_pos (by rw [v.sS]; simpa using hi), kit_l3 v hi x (by omega), Option.bind_some, w64_id (by omega) (by omega)]; rfl) (fun k => by
    show machine_kitOf.l2 (k + 1) (set2 m S Y S) S m x = _
    rw [machine_kitOf.l2, if_neg (by rw [v.sS]; simp)]) k (by omega)
def kitS (m : Machine) (S Y : Nat) : Kit := ⟨m, setS m S Y, doesS m S Y (S * Y), ((set1 m S Y (S * Y)).length : Int)⟩
theorem kitOf_eq {m : Machine} {S Y : Nat} (v : Val m S Y) {k : Nat} (hk : 30 ≤ k) : machine_kitOf k m = some (kitS m S Y) := by
  have h1 := v.dS; have h2 := v.dY; have h3 := v.le
  unfold machine_kitOf
  rw [kit_l0 v (by omega), Option.bind_some, kit_l1 v (by omega), Option.bind_some]
  have e0 : set2 m S Y 0 = set1 m S Y (S * Y) := by simp [set2]
  rw [show machine_kitOf.l2 k (set1 m S Y (S * Y), doesS m S Y (S * Y)).1 0 m (set1 m S Y (S * Y), doesS m S Y (S * Y)) = machine_kitOf.l2 k (set2 m S Y 0) 0 m (set1 m S Y (S * Y), doesS m S Y (S * Y)) from by rw [e0], kit_l2 v _ (by omega)]
  rfl
/-! the reference -/
theorem set1_mul (m : Machine) {S Y : Nat} (hY : 0 < Y) (n : Nat) : set1 m S Y (n * Y) = symL Y Y ++ (List.range n).flatMap fun q => (List.range Y).flatMap fun s => actL m S Y (q * Y + s) := by
  unfold set1; rw [range_mul]
/-! equal sets -/
theorem setS_len {m : Machine} {S Y : Nat} (v : Val m S Y) : (setS m S Y).length ≤ 1000 := set2_len v (Nat.le_refl _)
end Gp
set_option linter.unusedVariables false
set_option linter.unusedSimpArgs false
namespace Gp
open Gw Gq
theorem Fit.val {m : Machine} {c : Config} (h : Fit m c) : ∃ S Y, Val m S Y := val_of (by
  have := of_fit h
  unfold fitsB at this
  simp only [Bool.and_eq_true] at this
  exact this.1.1)
/-! ### colours -/
def colS (m : Machine) (c : Config) : List Int := c.Cells.set c.At.toNat (m.Symbols + c.State * m.Symbols + rdD c.Cells c.At 0)
theorem Fit.col {m : Machine} {c : Config} (h : Fit m c) : machine_head m c.State (rdD c.Cells c.At 0) = some (m.Symbols + c.State * m.Symbols + rdD c.Cells c.At 0) := by
  have hi := h.idx
  have hd := h.dim
  have hc := h.cell
  unfold machine_head
  rw [w64_id (n := c.State * m.Symbols) (by omega) (by omega), w64_id (n := m.Symbols + c.State * m.Symbols) (by omega) (by omega), w64_id (by omega) (by omega)]
theorem same_list (a : List Int) (hl : a.length ≤ 1000000) (k : Nat) (hk : a.length < k) : ref01_Same k a a = some true := by
  have := scan (F := fun k i => ref01_Same.l0 k i a a) (xs := a) (g := fun _ _ => (none : Option Bool)) (fun k i hi => by
    show ref01_Same.l0 (k + 1) i a a = _
    rw [ref01_Same.l0]
    by_cases h : i < a.length
    · have h2 : 0 ≤ (i : Int) ∧ (i : Int) < (a.length : Int) := by omega
      rw [dif_pos h, if_pos (by simpa using h), if_pos h2, if_pos h2, if_neg (by simp), w64_id (by omega) (by omega)]; rfl
    · rw [dif_neg h, if_neg (by simpa using h)]) a.length k 0 (by simp) hk
  have hn : ∀ (l : List Int) (i : Nat), firstS (fun _ _ => (none : Option Bool)) i l = none := by
    intro l
    induction l with
    | nil => intro i; rfl
    | cons x r ih => intro i; exact ih (i + 1)
  unfold ref01_Same
  rw [if_neg (by simp)]
  simp only [hn, fin, List.drop_zero] at this
  have h0 : ref01_Same.l0 k 0 a a = some (.inr ()) := this
  rw [h0]; rfl
/-! ### reading colours -/
structure RS where
  q : Int
  a : Int
  c : List Int
  h : Nat
def stepI (Y : Int) (x : Int) (i : Nat) (s : RS) : RS := if x < Y then s else ⟨Int.tdiv (x - Y) Y, i, s.c.set i (Int.tmod (x - Y) Y), s.h + 1⟩
def stepR (S Y : Int) (x : Int) (i : Nat) (s : RS) : RS := if Y ≤ x ∧ x < Y + S * Y then ⟨Int.tdiv (x - Y) Y, i, s.c ++ [Int.tmod x Y], s.h + 1⟩ else ⟨s.q, s.a, s.c ++ [x], s.h⟩
def runI (Y : Int) (l : List Int) : Nat → RS
  | 0 => ⟨0, 0, l, 0⟩
  | i + 1 => stepI Y (l.getD i 0) i (runI Y l i)
def runR (S Y : Int) (l : List Int) : Nat → RS
  | 0 => ⟨0, 0, [], 0⟩
  | i + 1 => stepR S Y (l.getD i 0) i (runR S Y l i)
theorem runI_len (Y : Int) (l : List Int) : ∀ i, (runI Y l i).c.length = l.length ∧ (runI Y l i).h ≤ i
  | 0 => ⟨rfl, Nat.le_refl _⟩
  | i + 1 => by
    have := runI_len Y l i
    rw [runI, stepI]
    split
    · exact ⟨this.1, by omega⟩
    · exact ⟨by simp [this.1], by simp; omega⟩
theorem runR_len (S Y : Int) (l : List Int) : ∀ i, (runR S Y l i).c.length = i ∧ (runR S Y l i).h ≤ i
  | 0 => ⟨rfl, Nat.le_refl _⟩
  | i + 1 => by
    have := runR_len S Y l i
    rw [runR, stepR]
    split
    · exact ⟨by simp [this.1], by simp; omega⟩
    · exact ⟨by simp [this.1], by simp; omega⟩
theorem tdiv_in {x Y : Int} (hY : 0 < Y) (hx : Y ≤ x) (hm : x ≤ 9223372036854775807) : w64 (Int.tdiv (w64 (x - Y)) Y) = Int.tdiv (x - Y) Y := by
  have h0 : 0 ≤ x - Y := by omega
  rw [w64_id (n := x - Y) (by omega) (by omega)]
  have h1 := Int.tdiv_nonneg h0 (Int.le_of_lt hY)
  have h2 := Int.tdiv_le_self Y h0
  exact w64_id (by omega) (by omega)
theorem getD_ok {l : List Int} (ho : ∀ x ∈ l, ok64 x) (i : Nat) : ok64 (l.getD i 0) := by
  by_cases h : i < l.length
  · rw [show l.getD i 0 = l[i] from by simp [List.getElem?_eq_getElem h]]; exact ho _ (List.getElem_mem h)
  · rw [show l.getD i 0 = 0 from by simp [List.getElem?_eq_none (Nat.le_of_not_lt h)]]; exact ⟨by decide, by decide⟩
end Gp
set_option linter.unusedVariables false
set_option linter.unusedSimpArgs false
namespace Gp
open Gw Gq
theorem tmod_sub {x Y : Int} (hY : 0 < Y) (hx : Y ≤ x) : Int.tmod (x - Y) Y = Int.tmod x Y := by
  rw [Int.tmod_eq_emod_of_nonneg (by omega), Int.tmod_eq_emod_of_nonneg (by omega)]
  exact Int.sub_emod_right x Y
theorem good_same {S Y : Int} (hY : 0 < Y) {l : List Int} (hg : ∀ x ∈ l, x < Y + S * Y) : ∀ i, i ≤ l.length →
    (runI Y l i).q = (runR S Y l i).q ∧ (runI Y l i).a = (runR S Y l i).a ∧ (runI Y l i).h = (runR S Y l i).h ∧ (runI Y l i).c = (runR S Y l i).c ++ l.drop i
  | 0, _ => ⟨rfl, rfl, rfl, rfl⟩
  | i + 1, hi => by
    obtain ⟨h1, h2, h3, h4⟩ := good_same hY hg i (by omega)
    have hlen := runR_len S Y l i
    have hlt : i < l.length := by omega
    have hx : l.getD i 0 = l[i] := by simp [List.getElem?_eq_getElem hlt]
    have hxg : l[i] < Y + S * Y := hg _ (List.getElem_mem hlt)
    have hdrop : l.drop i = l[i] :: l.drop (i + 1) := List.drop_eq_getElem_cons hlt
    rw [runI, runR, stepI, stepR, hx]
    by_cases hc : l[i] < Y
    · rw [if_pos hc, if_neg (by omega)]
      exact ⟨h1, h2, h3, by rw [h4, hdrop]; simp⟩
    · rw [if_neg hc, if_pos ⟨by omega, hxg⟩]
      refine ⟨rfl, rfl, by simp only [h3], ?_⟩
      simp only
      rw [h4, tmod_sub hY (by omega), List.set_append_right _ _ (by omega), hlen.1, Nat.sub_self, hdrop, List.set_cons_zero, List.append_assoc, List.singleton_append]
theorem bad_I {S Y : Int} (hY : 0 < Y) (hS : 0 ≤ S) {l : List Int} : ∀ i, i ≤ l.length → (∃ j, j < i ∧ Y + S * Y ≤ l.getD j 0) → 1 ≤ (runI Y l i).h ∧ ((runI Y l i).h = 1 → S ≤ (runI Y l i).q) := by
  intro i
  induction i with
  | zero => rintro _ ⟨j, hj, _⟩; omega
  | succ i ih =>
    rintro hi ⟨j, hj, hb⟩
    rw [runI, stepI]
    by_cases hji : j < i
    · obtain ⟨h1, h2⟩ := ih (by omega) ⟨j, hji, hb⟩
      split
      · exact ⟨h1, h2⟩
      · exact ⟨by simp, fun h => by simp at h; omega⟩
    · have : j = i := by omega
      subst this
      have hSY : 0 ≤ S * Y := Int.mul_nonneg hS (Int.le_of_lt hY)
      rw [if_neg (by omega)]
      refine ⟨by simp, fun _ => ?_⟩
      show S ≤ Int.tdiv (l.getD j 0 - Y) Y
      rw [Int.tdiv_eq_ediv_of_nonneg (by omega)]
      exact (Int.le_ediv_iff_mul_le hY).2 (by omega)
theorem bad_R {S Y : Int} {l : List Int} : ∀ i, i ≤ l.length → (runR S Y l i).c.length = i ∧ ∀ j, j < i → ¬ (Y ≤ l.getD j 0 ∧ l.getD j 0 < Y + S * Y) → l.getD j 0 ∈ (runR S Y l i).c := by
  intro i
  induction i with
  | zero => exact fun _ => ⟨rfl, fun j hj => by omega⟩
  | succ i ih =>
    intro hi
    obtain ⟨h1, h2⟩ := ih (by omega)
    refine ⟨(runR_len S Y l (i + 1)).1, fun j hj hb => ?_⟩
    rw [runR, stepR]
    by_cases hji : j < i
    · have := h2 j hji hb
      split <;> exact List.mem_append_left _ this
    · have : j = i := by omega
      subst this
      rw [if_neg hb]; exact List.mem_append_right _ (List.mem_singleton.2 rfl)
/-! the two readings -/
def okI : Option Config → Config × Int
  | some c => (c, 0)
  | none => (zC, 6)
def okR : Option Config → Config × Bool
  | some c => (c, true)
  | none => (zC, false)
def rdI (m : Machine) (s : RS) : Option Config := if s.h = 1 ∧ fitsB m ⟨s.q, s.a, s.c⟩ = true then some ⟨s.q, s.a, s.c⟩ else none
end Gp
set_option linter.unusedVariables false
set_option linter.unusedSimpArgs false
namespace Gp
open Gw Gq
theorem colS_get {m : Machine} {c : Config} (h : Fit m c) {i : Nat} (hi : i < c.Cells.length) : (colS m c).getD i 0 = if i = c.At.toNat then m.Symbols + c.State * m.Symbols + rdD c.Cells c.At 0 else c.Cells.getD i 0 := by
  unfold colS
  by_cases he : i = c.At.toNat
  · subst he; rw [if_pos rfl]; simp [hi]
  · rw [if_neg he, List.getD_eq_getElem?_getD, List.getElem?_set_ne (Ne.symm he), ← List.getD_eq_getElem?_getD]
theorem back_run {m : Machine} {c : Config} (h : Fit m c) : ∀ i, i ≤ c.Cells.length → runI m.Symbols (colS m c) i = if i ≤ c.At.toNat then ⟨0, 0, colS m c, 0⟩ else ⟨c.State, c.At, c.Cells, 1⟩ := by
  have hp := h.place
  have hcell := h.cell
  have hd := h.dim
  intro i
  induction i with
  | zero => intro _; rw [if_pos (Nat.zero_le _)]; rfl
  | succ i ih =>
    intro hi
    rw [runI, ih (by omega), stepI, colS_get h (by omega)]
    by_cases h1 : i < c.At.toNat
    · rw [if_pos (Nat.le_of_lt h1), if_pos (show i + 1 ≤ c.At.toNat by omega), if_neg (show ¬ i = c.At.toNat by omega)]
      have := h.cel (c.Cells.getD i 0) (by
        rw [show c.Cells.getD i 0 = c.Cells[i] from by simp [List.getElem?_eq_getElem (show i < c.Cells.length by omega)]]
        exact List.getElem_mem _)
      rw [if_pos this.2]
    · by_cases h2 : i = c.At.toNat
      · subst h2
        have hsy : 0 ≤ c.State * m.Symbols := Int.mul_nonneg hp.1 (by omega)
        rw [if_pos (Nat.le_refl _), if_pos rfl, if_neg (show ¬ c.At.toNat + 1 ≤ c.At.toNat by omega), if_neg (by omega)]
        have e : m.Symbols + c.State * m.Symbols + rdD c.Cells c.At 0 - m.Symbols = rdD c.Cells c.At 0 + m.Symbols * c.State := by rw [Int.mul_comm m.Symbols]; omega
        rw [e]
        have hn : 0 ≤ rdD c.Cells c.At 0 + m.Symbols * c.State := by rw [Int.mul_comm m.Symbols]; omega
        rw [Int.tdiv_eq_ediv_of_nonneg hn, Int.tmod_eq_emod_of_nonneg hn, Int.add_mul_ediv_left _ _ (by omega), Int.add_mul_emod_self_left, Int.ediv_eq_zero_of_lt hcell.1 hcell.2, Int.emod_eq_of_lt hcell.1 hcell.2, Int.zero_add]
        have e2 : (colS m c).set c.At.toNat (rdD c.Cells c.At 0) = c.Cells := by
          unfold colS
          rw [List.set_set]
          have hlt : c.At.toNat < c.Cells.length := by omega
          have : rdD c.Cells c.At 0 = c.Cells[c.At.toNat] := by simp [rdD, List.getElem?_eq_getElem hlt]
          rw [this, List.set_getElem_self]
        simp only
        rw [e2, Int.toNat_of_nonneg hp.2.2.2.2.1]
      · rw [if_neg (show ¬ i ≤ c.At.toNat by omega), if_neg h2, if_neg (show ¬ i + 1 ≤ c.At.toNat by omega)]
        have := h.cel (c.Cells.getD i 0) (by
          rw [show c.Cells.getD i 0 = c.Cells[i] from by simp [List.getElem?_eq_getElem (show i < c.Cells.length by omega)]]
          exact List.getElem_mem _)
        rw [if_pos this.2]
theorem colS_ok {m : Machine} {c : Config} (h : Fit m c) : ∀ x ∈ colS m c, ok64 x := by
  intro x hx
  have hi := h.idx
  have hd := h.dim
  have hc := h.cell
  rcases List.mem_or_eq_of_mem_set hx with h1 | h1
  · have := h.cel x h1; exact ⟨by omega, by omega⟩
  · rw [h1]; exact ⟨by omega, by omega⟩
end Gp
set_option linter.unusedVariables false
set_option linter.unusedSimpArgs false
namespace Gp
open Gw Gq
/-! ### pictures -/
def tileAt (m : Machine) (S Y : Nat) (c : Config) (i : Nat) : Int :=
  if (i : Int) = c.At then doesAt m S Y (c.State * m.Symbols + rdD c.Cells c.At 0).toNat
  else if (i : Int) = toOf m c then ((set1 m S Y (S * Y)).length : Int) + 2 * ((actOf m c).Next * m.Symbols + c.Cells.getD i 0) + 1 - (actOf m c).Move
  else c.Cells.getD i 0
def rowT (m : Machine) (S Y : Nat) (c : Config) : List Int := (List.range c.Cells.length).map (tileAt m S Y c)
theorem Fit.next_in {m : Machine} {c : Config} (h : Fit m c) : 0 ≤ (Gp.actOf m c).Next ∧ (Gp.actOf m c).Next ≤ m.States := by
  have := h.dim
  rcases actB_cases h.actOf with ha | ha
  · rw [ha.1]; omega
  · exact ⟨ha.2.2.2.2.1, Int.le_of_lt ha.2.2.2.2.2⟩
theorem row_eq {m : Machine} {S Y : Nat} (v : Val m S Y) {c : Config} (h : Fit m c) {k : Nat} (hk : 201 < k) : machine_kit_row k (kitS m S Y) ⟨m, c⟩ = some (rowT m S Y c) := by
  have hi := h.idx
  have hp := h.place
  have hm := h.move
  have hn := h.next_in
  have hd := h.dim
  have h24 := v.le
  have hl1 := set1_len m (S := S) v.dY.2 (S * Y)
  unfold machine_kit_row
  rw [does_eq h, Option.bind_some, if_pos ⟨hi.1, hi.2.1⟩, Option.bind_some]
  rw [show (rdD m.Actions (c.State * m.Symbols + rdD c.Cells c.At 0) z_Action) = actOf m c from rfl]
  have hns : 0 ≤ (actOf m c).Next * m.Symbols ∧ (actOf m c).Next * m.Symbols ≤ 24 := by
    refine ⟨Int.mul_nonneg hn.1 (by omega), ?_⟩
    have := Int.mul_le_mul (show (actOf m c).Next ≤ 6 by omega) hd.2.2.2 (by omega) (by omega)
    omega
  have := loop_to (F := fun k i l => machine_kit_row.l0 k l i (kitS m S Y) ⟨m, c⟩ ((actOf m c).Write, (actOf m c).Move, (actOf m c).Next)) (S := fun i => (List.range i).map (tileAt m S Y c)) (n := c.Cells.length) (K := 0) (r := rowT m S Y c) (fun k i _ hlt => by
    show machine_kit_row.l0 (k + 1) ((List.range i).map (tileAt m S Y c)) i (kitS m S Y) ⟨m, c⟩ ((actOf m c).Write, (actOf m c).Move, (actOf m c).Next) = _
    have hcel := h.cel (c.Cells.getD i 0) (by
      rw [show c.Cells.getD i 0 = c.Cells[i] from by simp [List.getElem?_eq_getElem hlt]]
      exact List.getElem_mem _)
    rw [machine_kit_row.l0, if_pos (by simpa using hlt), if_pos (by simp only; omega)]
    simp only
    rw [h.wto, does_eq h, Option.bind_some, rdD_nat]
    have hin : ((if ((i : Int) == c.At) = true then if 0 ≤ c.State * m.Symbols + rdD c.Cells c.At 0 ∧ c.State * m.Symbols + rdD c.Cells c.At 0 < ((kitS m S Y).does.length : Int) then some (rdD (kitS m S Y).does (c.State * m.Symbols + rdD c.Cells c.At 0) 0) else none
        else (if ((i : Int) == toOf m c) = true then some (w64 (w64 (w64 ((kitS m S Y).base + w64 (2 * w64 (w64 ((actOf m c).Next * m.Symbols) + c.Cells.getD i 0))) + 1) - (actOf m c).Move)) else some (c.Cells.getD i 0)).bind fun x => some x) : Option Int) = some (tileAt m S Y c i) := by
      unfold tileAt
      by_cases h1 : (i : Int) = c.At
      · have hdl : (kitS m S Y).does.length = S * Y := by simp [kitS, doesS]
        have hlen := v.len
        have hlt2 : (c.State * m.Symbols + rdD c.Cells c.At 0).toNat < S * Y := by omega
        rw [if_pos (by simpa using h1), if_pos h1, if_pos ⟨hi.1, by rw [hdl, ← hlen]; exact hi.2.1⟩]
        congr 1
        generalize c.State * m.Symbols + rdD c.Cells c.At 0 = z at hlt2 ⊢
        unfold rdD kitS doesS
        simp only [List.getD_eq_getElem?_getD, List.getElem?_map, List.getElem?_range hlt2, Option.map_some, Option.getD_some]
      · rw [if_neg (by simpa using h1), if_neg h1]
        by_cases h2 : (i : Int) = toOf m c
        · rw [if_pos (by simpa using h2), if_pos h2, Option.bind_some, w64_id (n := (actOf m c).Next * m.Symbols) (by omega) (by omega), w64_id (n := (actOf m c).Next * m.Symbols + c.Cells.getD i 0) (by omega) (by omega), w64_id (n := 2 * ((actOf m c).Next * m.Symbols + c.Cells.getD i 0)) (by omega) (by omega)]
          rw [show (kitS m S Y).base = ((set1 m S Y (S * Y)).length : Int) from rfl, w64_id (n := ((set1 m S Y (S * Y)).length : Int) + 2 * ((actOf m c).Next * m.Symbols + c.Cells.getD i 0)) (by omega) (by omega), w64_id (n := ((set1 m S Y (S * Y)).length : Int) + 2 * ((actOf m c).Next * m.Symbols + c.Cells.getD i 0) + 1) (by omega) (by omega), w64_id (by omega) (by omega)]
        · rw [if_neg (by simpa using h2), if_neg h2]; rfl
    rw [hin, Option.bind_some, if_pos (by simp; omega), w64_id (by omega) (by omega), map_succ]; rfl) (fun k => by
    show machine_kit_row.l0 (k + 1) ((List.range c.Cells.length).map (tileAt m S Y c)) c.Cells.length (kitS m S Y) ⟨m, c⟩ _ = _
    rw [machine_kit_row.l0, if_neg (by simp)]; rfl) k (by omega)
  have h0 : machine_kit_row.l0 k [] 0 (kitS m S Y) ⟨m, c⟩ ((actOf m c).Write, (actOf m c).Move, (actOf m c).Next) = some (rowT m S Y c) := this
  rw [h0]; rfl
end Gp
set_option linter.unusedVariables false
set_option linter.unusedSimpArgs false
namespace Gp
open Gw Gq
def zP : Pattern := ⟨0, 0, []⟩
def picS (m : Machine) (S Y : Nat) : Nat → Config → Option (List Int)
  | 0, _ => some []
  | n + 1, c => if noStep m c = 0 then (picS m S Y n (nextC m c)).map (rowT m S Y c ++ ·) else none
theorem rowT_len (m : Machine) (S Y : Nat) (c : Config) : (rowT m S Y c).length = c.Cells.length := by simp [rowT]
theorem next_len (m : Machine) (c : Config) : (nextC m c).Cells.length = c.Cells.length := by simp [nextC]
theorem picS_len {m : Machine} {S Y : Nat} : ∀ (n : Nat) (c : Config) (r : List Int), picS m S Y n c = some r → r.length = n * c.Cells.length
  | 0, c, r, h => by injection h with h; subst h; simp
  | n + 1, c, r, h => by
    rw [picS] at h
    split at h
    · cases hp : picS m S Y n (nextC m c) with
      | none => rw [hp] at h; cases h
      | some q =>
        rw [hp] at h; injection h with h; subst h
        have := picS_len n _ q hp
        rw [List.length_append, rowT_len, this, next_len, Nat.succ_mul, Nat.add_comm]
    · cases h
def endP (acc : List Int) : Option (List Int) → Sum (Pattern × Int) (List Int)
  | some r => .inr (acc ++ r)
  | none => .inl (zP, 6)
theorem pic_loop {m : Machine} {S Y : Nat} (v : Val m S Y) {n : Int} (hn : n ≤ 1000000) : ∀ (d k : Nat) (i : Int) (c : Config) (acc : List Int), 0 ≤ i → i + d = n → d + 203 < k → Fit m c → acc.length + d * c.Cells.length ≤ 1000000 →
    machine_Picture.l0 k m.States m.Symbols c.State c.At c.Cells acc i m n (kitS m S Y) = some (endP acc (picS m S Y d c))
  | 0, k, i, c, acc, h0, hd, hk, h, hl => by
    obtain ⟨k, rfl⟩ : ∃ m, k = m + 1 := ⟨k - 1, by omega⟩
    rw [machine_Picture.l0, if_neg (by simp; omega)]
    simp [picS, endP]
  | d + 1, k, i, c, acc, h0, hd, hk, h, hl => by
    obtain ⟨k, rfl⟩ : ∃ m, k = m + 1 := ⟨k - 1, by omega⟩
    have hp := h.place
    rw [Nat.succ_mul] at hl
    rw [machine_Picture.l0, if_pos (by simp; omega)]
    rw [show (Config.mk c.State c.At c.Cells) = c from rfl, begin_eq (by omega), Option.bind_some]
    rw [show (Runner.mk (Machine.mk (Runner.mk m c).m.States (Runner.mk m c).m.Symbols m.Actions) (Runner.mk m c).Config) = ⟨m, c⟩ from rfl, rstep_eq h, Option.bind_some]
    rw [show (Kit.mk (Machine.mk (kitS m S Y).m.States (kitS m S Y).m.Symbols m.Actions) (kitS m S Y).set (kitS m S Y).does (kitS m S Y).base) = kitS m S Y from rfl]
    rw [show (Runner.mk (Machine.mk m.States m.Symbols m.Actions) c) = ⟨m, c⟩ from rfl, row_eq v h (by omega)]
    rw [picS]
    by_cases hs : noStep m c = 0
    · simp only [hs, bne_self_eq_false, Bool.false_eq_true, if_false, if_true, Option.bind_some]
      rw [if_pos (by rw [rowT_len]; omega), w64_id (by omega) (by omega)]
      have := pic_loop v hn d k (i + 1) (nextC m c) (acc ++ rowT m S Y c) (by omega) (by omega) (by omega) (h.next hs) (by rw [List.length_append, rowT_len, next_len]; omega)
      rw [this]
      cases picS m S Y d (nextC m c) <;> simp [endP]
    · rw [if_pos (by simpa using hs), if_neg hs]; rfl
def picR (n : Int) (w : Int) : Option (List Int) → Pattern × Int
  | some r => (⟨w, n, r⟩, 0)
  | none => (zP, 6)
theorem pic1 {m : Machine} {S Y : Nat} (v : Val m S Y) {c : Config} (h : Fit m c) {n : Int} {k : Nat} (h1 : 1 ≤ n) (h2 : n ≤ 40000) (h3 : (c.Cells.length : Int) * n ≤ 40000) (hk : n.toNat + 204 < k) :
    machine_Picture k m c n = some (picR n c.Cells.length (picS m S Y n.toNat c)) := by
  have hp := h.place
  unfold machine_Picture
  rw [fits1 m c k (by omega), Option.bind_some, of_fit h, if_neg (by simp), if_neg (by simp; omega)]
  have h0 : 0 ≤ (c.Cells.length : Int) * n := Int.mul_nonneg (by omega) (by omega)
  have hm : n.toNat * c.Cells.length ≤ 40000 := by
    have : ((n.toNat * c.Cells.length : Nat) : Int) = (c.Cells.length : Int) * n := by rw [Int.natCast_mul, Int.toNat_of_nonneg (by omega), Int.mul_comm]
    omega
  rw [w64_id (n := (c.Cells.length : Int) * n) (by omega) (by omega), if_neg (by simp; omega), kitOf_eq v (by omega), Option.bind_some, begin_eq (by omega), Option.bind_some]
  have := pic_loop v (n := n) (by omega) n.toNat k 0 c [] (by omega) (by omega) (by omega) h (by simp; omega)
  rw [show (Runner.mk m c).m.States = m.States from rfl, show (Runner.mk m c).m.Symbols = m.Symbols from rfl, show (Runner.mk m c).Config = c from rfl, this, Option.bind_some]
  cases picS m S Y n.toNat c <;> rfl
theorem pic_err {m : Machine} {c : Config} {n : Int} {k : Nat} (hk : 204 ≤ k) (hb : fitsB m c = false ∨ n < 1) : machine_Picture k m c n = some (zP, if fitsB m c = true then 2 else 1) := by
  unfold machine_Picture
  rw [fits1 m c k (by omega), Option.bind_some]
  cases hf : fitsB m c
  · rfl
  · rw [if_neg (by simp), if_pos (by rcases hb with h | h; · rw [hf] at h; cases h
                                     · simpa using h)]; rfl
theorem pic_many {m : Machine} {c : Config} (h : Fit m c) {n : Int} {k : Nat} (hk : 204 ≤ k) (h1 : 1 ≤ n) (hm : n ≤ 9223372036854775807) (hb : 40000 < n ∨ 40000 < (c.Cells.length : Int) * n) : machine_Picture k m c n = some (zP, 4) := by
  have hp := h.place
  unfold machine_Picture
  rw [fits1 m c k (by omega), Option.bind_some, of_fit h, if_neg (by simp), if_neg (by simp; omega), if_pos]
  · rfl
  · simp only [Bool.or_eq_true, decide_eq_true_eq]
    by_cases hn : 40000 < n
    · exact .inl hn
    · right
      have h0 : 0 ≤ (c.Cells.length : Int) * n := Int.mul_nonneg (by omega) (by omega)
      have h9 : (c.Cells.length : Int) * n ≤ 200 * 40000 := Int.mul_le_mul (by omega) (by omega) (by omega) (by omega)
      rw [w64_id (by omega) (by omega)]
      rcases hb with hb | hb
      · exact absurd hb hn
      · exact hb
end Gp
set_option linter.unusedVariables false
set_option linter.unusedSimpArgs false
namespace Gp
open Gw Gq
theorem run_stop {m : Machine} {c : Config} (h : noStep m c ≠ 0) : ∀ b, runS m b c = (c, 0)
  | 0 => rfl
  | b + 1 => by rw [runS, if_neg h]
theorem run_add {m : Machine} : ∀ (a b : Nat) (c : Config), runS m (a + b) c = ((runS m b (runS m a c).1).1, (runS m a c).2 + (runS m b (runS m a c).1).2)
  | 0, b, c => by simp [runS]
  | a + 1, b, c => by
    rw [Nat.succ_add, runS, runS]
    by_cases h : noStep m c = 0
    · rw [if_pos h, if_pos h, run_add a b]; simp only [Prod.mk.injEq, true_and]; omega
    · rw [if_neg h, if_neg h, run_stop h b]; rfl
/-! cutting off the first row -/
theorem cut_loop {r0 rest : List Int} {W h : Nat} (hr0 : r0.length = W) (hrest : rest.length = h * W) (hW : 1 ≤ W ∧ W ≤ 40000) (hh : h ≤ 40000) (hm : (h + 1) * W ≤ 40000) {k : Nat} (hk : h < k) :
    tile_Cut.l0 k [] 0 ⟨W, ((h + 1 : Nat) : Int), r0 ++ rest⟩ 0 1 W h = some rest := by
  have hWW : ∀ i, i < h → i * W + W ≤ h * W := fun i hi => by rw [← Nat.succ_mul]; exact Nat.mul_le_mul_right _ hi
  rw [Nat.succ_mul] at hm
  have := loop_to (F := fun k i l => tile_Cut.l0 k l i ⟨W, ((h + 1 : Nat) : Int), r0 ++ rest⟩ 0 1 W h) (S := fun i => rest.take (i * W)) (n := h) (K := 0) (r := rest) (fun k i _ hi => by
    have hi2 := hWW i hi
    show tile_Cut.l0 (k + 1) (rest.take (i * W)) i ⟨W, ((h + 1 : Nat) : Int), r0 ++ rest⟩ 0 1 W h = _
    have e1 : w64 (w64 (w64 (1 + (i : Int)) * (W : Int)) + 0) = ((W + i * W : Nat) : Int) := by
      rw [w64_id (n := 1 + (i : Int)) (by omega) (by omega)]
      have e : (1 + (i : Int)) * (W : Int) = ((W + i * W : Nat) : Int) := by push_cast; rw [Int.add_mul, Int.one_mul]
      rw [e, w64_id (n := ((W + i * W : Nat) : Int)) (by omega) (by omega), Int.add_zero, w64_id (by omega) (by omega)]
    have e2 : w64 (((W + i * W : Nat) : Int) + (W : Int)) = ((W + i * W + W : Nat) : Int) := by rw [w64_id (by omega) (by omega)]; push_cast; rfl
    rw [tile_Cut.l0, if_pos (by simpa using hi)]
    simp only
    rw [e1, e2, if_pos ⟨by omega, by omega, by rw [List.length_append]; omega⟩]
    have e3 : cut (r0 ++ rest) ((W + i * W : Nat) : Int) ((W + i * W + W : Nat) : Int) = (rest.drop (i * W)).take W := by
      unfold cut
      rw [Int.toNat_natCast, Int.toNat_natCast, List.drop_append, hr0, show W + i * W - W = i * W from by omega, List.drop_eq_nil_of_le (by omega), List.nil_append, show W + i * W + W - (W + i * W) = W from by omega]
    rw [e3, if_pos (by rw [List.length_take, List.length_take, List.length_drop]; omega), w64_id (by omega) (by omega)]
    have e4 : rest.take ((i + 1) * W) = rest.take (i * W) ++ (rest.drop (i * W)).take W := by rw [Nat.succ_mul, List.take_add]
    rw [e4]; rfl) (fun k => by
    show tile_Cut.l0 (k + 1) (rest.take (h * W)) h ⟨W, ((h + 1 : Nat) : Int), r0 ++ rest⟩ 0 1 W h = _
    rw [tile_Cut.l0, if_neg (by simp), ← hrest, List.take_length]) k (by omega)
  simpa using this
theorem cut_eq {r0 rest : List Int} {W h : Nat} (hr0 : r0.length = W) (hrest : rest.length = h * W) (hW : 1 ≤ W ∧ W ≤ 40000) (hh : 1 ≤ h ∧ h ≤ 39999) (hm : (h + 1) * W ≤ 40000) {k : Nat} (hk : h < k) :
    tile_Cut k ⟨W, ((h + 1 : Nat) : Int), r0 ++ rest⟩ 0 1 W h = some (⟨W, h, rest⟩, 0) := by
  rw [Nat.succ_mul] at hm
  have hmm : (W : Int) * ((h + 1 : Nat) : Int) = ((h * W + W : Nat) : Int) := by push_cast; rw [Int.mul_comm, Int.add_mul, Int.one_mul]
  have hlen : ((r0 ++ rest).length : Int) = ((h * W + W : Nat) : Int) := by rw [List.length_append, hr0, hrest]; push_cast; omega
  unfold tile_Cut tile_Form
  simp only
  rw [hmm, w64_id (n := ((h * W + W : Nat) : Int)) (by omega) (by omega), hlen, Option.bind_some, if_neg (by simp; omega)]
  rw [w64_id (n := (W : Int) - W) (by omega) (by omega), w64_id (n := ((h + 1 : Nat) : Int) - h) (by omega) (by omega), if_neg (by simp; omega)]
  rw [cut_loop hr0 hrest hW (by omega) (by rw [Nat.succ_mul]; exact hm) hk]; rfl
theorem samepat_refl (p : Pattern) (hl : p.Cells.length ≤ 1000000) {k : Nat} (hk : p.Cells.length < k) : ref01_SamePattern k p p = some true := by
  unfold ref01_SamePattern
  rw [if_pos (by simp), same_list _ hl _ hk]; rfl
end Gp
set_option linter.unusedVariables false
set_option linter.unusedSimpArgs false
namespace Gp
open Gw Gq
theorem wf16 {n : Int} (h : (Go.Lit.int .u16 n).wf = true) : 0 ≤ n ∧ n ≤ 65535 := by simpa [Go.Lit.wf, Go.IntKind.min, Go.IntKind.max, Go.IntKind.signed, Go.IntKind.bits] using h
theorem law08_MachineParts_pure : ∀ (p0 : Machine) (p1 : Config) (p2 : Int) (p3 : Int), (ok_Machine p0) → (ok_Config p1) → ((Go.Lit.int .u16 p2).wf = true) → ((Go.Lit.int .u16 p3).wf = true) → ∃ k, law08_MachineParts k p0 p1 p2 p3 = some true := by
  intro m c a b _ _ ha hb
  have ha := wf16 ha
  have hb := wf16 hb
  refine ⟨10000, ?_⟩
  have aw : law08_awake 10000 = some true := awake_ok 9960
  unfold law08_MachineParts law08_wide
  rw [w64_id (n := a) (by omega) (by omega), w64_id (n := b) (by omega) (by omega), w64_id (n := a + b) (by omega) (by omega), Option.bind_some, fits2 m c 10000 (by omega)]
  simp only [Option.bind_some]
  by_cases hw : (decide ((m.Actions.length : Int) > 200) || decide ((c.Cells.length : Int) > 1000)) = true
  · rw [if_pos hw, Option.bind_some, if_pos (by simp), aw]; rfl
  · rw [if_neg hw, Option.bind_some]
    cases hf : fitsB m c
    · rw [if_pos (by simp), aw]; rfl
    · by_cases hs : a + b > 3000
      · rw [if_pos (by simp; exact hs), aw]; rfl
      · rw [if_neg (by simp; omega)]
        have h := fit_of hf
        have hp := h.place
        have hfa := run_fit a.toNat h
        have hfab := run_fit (a + b).toNat h
        have hla := run_le (m := m) a.toNat c
        have hlb := run_le (m := m) b.toNat (runS m a.toNat c).1
        have hadd : runS m (a + b).toNat c = ((runS m b.toNat (runS m a.toNat c).1).1, (runS m a.toNat c).2 + (runS m b.toNat (runS m a.toNat c).1).2) := by
          rw [show (a + b).toNat = a.toNat + b.toNat by omega, run_add]
        rw [run1 (by omega) (by omega) (by omega) (by omega) (by omega) h, Option.bind_some, run1 (by omega) (by omega) (by omega) (by omega) (by omega) h, Option.bind_some]
        simp only [bne_self_eq_false, Bool.or_self, Bool.false_eq_true, if_false]
        rw [fits2 m _ 10000 (by omega), of_fit hfa, Option.bind_some, Option.bind_some]
        simp only [Bool.not_true, Bool.false_eq_true, if_false]
        rw [run1 (by omega) (by omega) (by omega) (by omega) (by omega) hfa, Option.bind_some, hadd]
        have hpb := (run_fit b.toNat hfa).place
        have hsame : ref08_SameConfig 10000 (runS m b.toNat (runS m a.toNat c).1).1 (runS m b.toNat (runS m a.toNat c).1).1 = some true := by rw [same_eq _ _ (by omega) _ (by omega)]; simp
        simp only [bne_self_eq_false, Bool.false_eq_true, if_false, hsame, Option.bind_some, Bool.not_true, Bool.false_or]
        have hsum : w64 (((runS m a.toNat c).2 : Int) + ((runS m b.toNat (runS m a.toNat c).1).2 : Int)) = (((runS m a.toNat c).2 + (runS m b.toNat (runS m a.toNat c).1).2 : Nat) : Int) := by
          rw [w64_id (by omega) (by omega)]; push_cast; rfl
        rw [hsum]
        simp only [bne_self_eq_false, Bool.false_eq_true, if_false]
        -- pictures
        obtain ⟨g, hg, hg40⟩ : ∃ g : Nat, w64 (1 + Int.tmod a 40) = g ∧ 1 ≤ g ∧ g ≤ 40 := by
          have h1 : Int.tmod a 40 = a % 40 := Int.tmod_eq_emod_of_nonneg ha.1
          refine ⟨(1 + a % 40).toNat, ?_, by omega, by omega⟩
          rw [h1, w64_id (by omega) (by omega)]; omega
        rw [hg, show w64 ((g : Int) + 1) = ((g + 1 : Nat) : Int) from by rw [w64_id (by omega) (by omega)]; push_cast; rfl]
        have h200 : (c.Cells.length : Int) ≤ 200 := hp.2.2.2.1
        have hwm : w64 ((c.Cells.length : Int) * ((g + 1 : Nat) : Int)) = ((c.Cells.length * (g + 1) : Nat) : Int) := by
          have h9 : c.Cells.length * (g + 1) ≤ 200 * 41 := Nat.mul_le_mul (by omega) (by omega)
          rw [← Int.natCast_mul, w64_id (by omega) (by omega)]
        obtain ⟨S, Y, v⟩ := h.val
        have h9 : c.Cells.length * (g + 1) ≤ 200 * 41 := Nat.mul_le_mul (by omega) (by omega)
        have hq : (c.Cells.length : Int) * ((g + 1 : Nat) : Int) ≤ 40000 := by rw [← Int.natCast_mul]; omega
        rw [pic1 v h (by omega) (by omega) hq (by omega), Option.bind_some, step1 (by omega), Option.bind_some, hf, if_pos rfl, hwm, Int.toNat_natCast, picS]
        unfold stepS
        by_cases hst : noStep m c = 0
        · rw [if_pos hst, if_pos hst]
          cases hpic : picS m S Y g (nextC m c) with
          | none =>
            simp [picR, aw]
          | some r =>
            simp only [Option.map_some, picR]
            by_cases hbig : 6000 < c.Cells.length * (g + 1)
            · have hz : (6000 : Int) < ((c.Cells.length * (g + 1) : Nat) : Int) := Int.ofNat_lt.2 hbig
              generalize ((c.Cells.length * (g + 1) : Nat) : Int) = z at hz ⊢
              simp [hz, aw]
            · have hnf := h.next hst
              have hrl := picS_len g (nextC m c) r hpic
              rw [next_len] at hrl
              have hq2 : ((nextC m c).Cells.length : Int) * (g : Int) ≤ 40000 := by
                rw [next_len, ← Int.natCast_mul]
                have : c.Cells.length * g ≤ 200 * 40 := Nat.mul_le_mul (by omega) (by omega)
                omega
              have hz : ¬ (6000 : Int) < ((c.Cells.length * (g + 1) : Nat) : Int) := fun hz => hbig (Int.ofNat_lt.1 hz)
              generalize ((c.Cells.length * (g + 1) : Nat) : Int) = z at hz ⊢
              have hz2 : (decide (z > 6000)) = false := by simpa using hz
              simp only [hz2, Bool.false_or, bne_self_eq_false, Bool.or_self, Bool.false_eq_true, if_false]
              rw [pic1 v hnf (by omega) (by omega) hq2 (by omega), Option.bind_some, Int.toNat_natCast, hpic]
              simp only [picR]
              rw [cut_eq (r0 := rowT m S Y c) (rest := r) (rowT_len m S Y c) hrl (by omega) (by omega) (by rw [Nat.mul_comm]; omega) (by omega), Option.bind_some, next_len]
              have hsp : ref01_SamePattern 10000 ⟨c.Cells.length, g, r⟩ ⟨c.Cells.length, g, r⟩ = some true := by
                have h8 : g * c.Cells.length ≤ 40 * 200 := Nat.mul_le_mul (by omega) (by omega)
                exact samepat_refl _ (by simp only; omega) (by simp only; omega)
              simp [hsp, aw]
        · rw [if_neg hst, if_neg hst]
          have h6 : noStep m c ≠ 0 := hst
          simp [picR, aw, h6]
end Gp
