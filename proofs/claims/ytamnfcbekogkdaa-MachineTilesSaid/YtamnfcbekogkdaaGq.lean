/- The plain law: what the functions compute answers as the statement says. -/
import Derived.Test.YtamnfcbekogkdaaGp
import Derived.KernelRfl
set_option linter.unusedVariables false
set_option linter.unusedSimpArgs false
namespace Gq
open Go Gw Gp
/-! ### numbers and lists -/
theorem w64_id {n : Int} (h0 : -9223372036854775808 ≤ n) (h1 : n ≤ 9223372036854775807) : w64 n = n := by
  show IntKind.i64.wrap n = n
  have e : IntKind.i64.wrap n = if (true && decide (n % 18446744073709551616 ≥ 9223372036854775808)) = true then n % 18446744073709551616 - 18446744073709551616 else n % 18446744073709551616 := rfl
  rw [e]
  simp only [Bool.true_and, decide_eq_true_eq]
  split <;> omega
theorem rdD_nat {α : Type} (xs : List α) (i : Nat) (d : α) : rdD xs (i : Int) d = xs.getD i d := by simp [rdD]
theorem rdD_get {α : Type} {xs : List α} {i : Nat} (h : i < xs.length) (d : α) : rdD xs (i : Int) d = xs[i] := by
  simp [rdD, List.getD, List.getElem?_eq_getElem h]
def firstS {α β : Type} (g : Nat → α → Option β) : Nat → List α → Option β
  | _, [] => none
  | i, a :: r => match g i a with
    | some b => some b
    | none => firstS g (i + 1) r
def fin {β : Type} : Option β → Sum β Unit
  | some b => .inl b
  | none => .inr ()
theorem scan {α β : Type} {F : Nat → Int → Option (Sum β Unit)} {xs : List α} {g : Nat → α → Option β}
    (hF : ∀ k (i : Nat), i ≤ xs.length → F (k + 1) (i : Int) = if h : i < xs.length then (match g i xs[i] with | some b => some (.inl b) | none => F k ((i + 1 : Nat) : Int)) else some (.inr ())) :
    ∀ (n k i : Nat), i + n = xs.length → n < k → F k (i : Int) = some (fin (firstS g i (xs.drop i)))
  | 0, k, i, hi, hk => by
    obtain ⟨k, rfl⟩ : ∃ m, k = m + 1 := ⟨k - 1, by omega⟩
    have hi : i = xs.length := by omega
    subst hi
    rw [hF k _ (Nat.le_refl _), dif_neg (Nat.lt_irrefl _), List.drop_length]; rfl
  | n + 1, k, i, hi, hk => by
    obtain ⟨k, rfl⟩ : ∃ m, k = m + 1 := ⟨k - 1, by omega⟩
    have hlt : i < xs.length := by omega
    rw [hF k i (by omega), dif_pos hlt, List.drop_eq_getElem_cons hlt, firstS]
    cases hg : g i xs[i] with
    | some b => rfl
    | none => exact scan hF n k (i + 1) (by omega) (by omega)
theorem firstS_none {α β : Type} {g : Nat → α → Option β} {p : α → Bool} (hp : ∀ i a, g i a = none ↔ p a = true) : ∀ (i : Nat) (xs : List α), firstS g i xs = none ↔ xs.all p = true
  | i, [] => by simp [firstS]
  | i, a :: r => by
    rw [firstS, List.all_cons]
    cases hg : g i a with
    | some b =>
      have : ¬ p a = true := fun h => by rw [(hp i a).2 h] at hg; cases hg
      simp [this]
    | none => rw [(hp i a).1 hg]; simpa using firstS_none hp (i + 1) r
end Gq
set_option linter.unusedVariables false
set_option linter.unusedSimpArgs false
namespace Gp
open Gw Gq
/-! ### valid machines -/
def actB (m : Machine) (a : Action) : Bool := if a.Next = m.States then a.Write == 0 && a.Move == 0 else decide (0 ≤ a.Write ∧ a.Write < m.Symbols ∧ 0 ≤ a.Move ∧ a.Move < 2 ∧ 0 ≤ a.Next ∧ a.Next < m.States)
def dimB (m : Machine) : Bool := decide (1 ≤ m.States ∧ m.States ≤ 6 ∧ 2 ≤ m.Symbols ∧ m.Symbols ≤ 4 ∧ (m.Actions.length : Int) = m.States * m.Symbols)
def validB (m : Machine) : Bool := dimB m && m.Actions.all (actB m)
theorem action_eq (m : Machine) (a : Action) : machine_action m a = some (actB m a) := by
  unfold machine_action actB
  by_cases h : a.Next = m.States
  · simp [h]
  · simp [h, Bool.and_assoc, ge_iff_le]
theorem idx_valid (m : Machine) (xs : List Action) (hl : xs.length ≤ 1000000) (k : Nat) (hk : xs.length < k) :
    slices_IndexFunc_api_Action_api_Action_with_machine_Valid_1.l0 k 0 xs m = some (fin (firstS (fun i a => if actB m a = true then none else some (i : Int)) 0 xs)) := by
  have := scan (F := fun k i => slices_IndexFunc_api_Action_api_Action_with_machine_Valid_1.l0 k i xs m) (xs := xs) (g := fun i a => if actB m a = true then none else some (i : Int)) (fun k i hi => by
    show slices_IndexFunc_api_Action_api_Action_with_machine_Valid_1.l0 (k + 1) i xs m = _
    rw [slices_IndexFunc_api_Action_api_Action_with_machine_Valid_1.l0]
    by_cases h : i < xs.length
    · have h' : (i : Int) < (xs.length : Int) := by omega
      have h2 : 0 ≤ (i : Int) ∧ (i : Int) < (xs.length : Int) := by omega
      rw [dif_pos h, if_pos (by simpa using h'), if_pos h2, rdD_get h, machine_Valid_1, action_eq, w64_id (by omega) (by omega)]
      cases hb : actB m xs[i] <;> simp
    · have h' : ¬ (i : Int) < (xs.length : Int) := by omega
      rw [dif_neg h, if_neg (by simpa using h')]) xs.length k 0 (by simp) hk
  simpa using this
theorem firstS_ge {α : Type} {p : α → Bool} : ∀ (xs : List α) (i : Nat), (match firstS (fun i a => if p a = true then none else some (i : Int)) i xs with | some j => decide (j ≥ 0) | none => false) = !xs.all p
  | [], i => rfl
  | a :: r, i => by
    rw [firstS]
    cases h : p a
    · simp [h]
    · simpa [h] using firstS_ge r (i + 1)
theorem contains_valid (m : Machine) (xs : List Action) (hl : xs.length ≤ 1000000) (k : Nat) (hk : xs.length < k) :
    slices_ContainsFunc_api_Action_api_Action_with_machine_Valid_1 k xs m = some (!xs.all (actB m)) := by
  unfold slices_ContainsFunc_api_Action_api_Action_with_machine_Valid_1 slices_IndexFunc_api_Action_api_Action_with_machine_Valid_1
  rw [idx_valid m xs hl k hk]
  have := firstS_ge (p := actB m) xs 0
  rw [← this]
  cases firstS (fun i a => if actB m a = true then none else some (i : Int)) 0 xs <;> simp [fin, sumb]
theorem dim_w64 {m : Machine} (h : 1 ≤ m.States ∧ m.States ≤ 6 ∧ 2 ≤ m.Symbols ∧ m.Symbols ≤ 4) : w64 (m.States * m.Symbols) = m.States * m.Symbols ∧ m.States * m.Symbols ≤ 24 ∧ 2 ≤ m.States * m.Symbols := by
  obtain ⟨h1, h2, h3, h4⟩ := h
  have : m.States = 1 ∨ m.States = 2 ∨ m.States = 3 ∨ m.States = 4 ∨ m.States = 5 ∨ m.States = 6 := by omega
  have h5 : m.States * m.Symbols ≤ 24 ∧ 2 ≤ m.States * m.Symbols := by rcases this with h | h | h | h | h | h <;> rw [h] <;> omega
  exact ⟨w64_id (by omega) (by omega), h5⟩
theorem valid1 (m : Machine) (k : Nat) (hk : 25 ≤ k) : machine_Valid k m = some (validB m) := by
  unfold machine_Valid validB dimB
  by_cases h : 1 ≤ m.States ∧ m.States ≤ 6 ∧ 2 ≤ m.Symbols ∧ m.Symbols ≤ 4
  · obtain ⟨hw, h24, _⟩ := dim_w64 h
    rw [hw]
    by_cases hl : (m.Actions.length : Int) = m.States * m.Symbols
    · rw [if_pos (by simp [h, hl]), contains_valid m m.Actions (by omega) k (by omega)]
      simp [h, hl]
    · rw [if_neg (by simp [hl])]
      simp [hl]
  · rw [if_neg (by simp; intro a b c d; omega)]
    have : ¬ (1 ≤ m.States ∧ m.States ≤ 6 ∧ 2 ≤ m.Symbols ∧ m.Symbols ≤ 4 ∧ (m.Actions.length : Int) = m.States * m.Symbols) := fun hh => h ⟨hh.1, hh.2.1, hh.2.2.1, hh.2.2.2.1⟩
    simp [this]
/-! the reference -/
def actBad (m : Machine) (a : Action) : Option Bool := if actB m a = true then none else some false
theorem ref_valid_loop (m : Machine) (hd : 1 ≤ m.States ∧ m.States ≤ 6 ∧ 2 ≤ m.Symbols ∧ m.Symbols ≤ 4) (hl : m.Actions.length ≤ 1000000) (k : Nat) (hk : m.Actions.length < k) :
    ref08_Valid.l0 k 0 m = some (fin (firstS (fun _ a => if actB m a = true then none else some false) 0 m.Actions)) := by
  have := scan (F := fun k i => ref08_Valid.l0 k i m) (xs := m.Actions) (g := fun _ a => if actB m a = true then none else some false) (fun k i hi => by
    show ref08_Valid.l0 (k + 1) i m = _
    rw [ref08_Valid.l0]
    by_cases h : i < m.Actions.length
    · have h' : (i : Int) < (m.Actions.length : Int) := by omega
      have h2 : 0 ≤ (i : Int) ∧ (i : Int) < (m.Actions.length : Int) := by omega
      rw [dif_pos h, if_pos (by simpa using h'), if_pos h2, rdD_get h, w64_id (by omega) (by omega)]
      generalize m.Actions[i] = a
      unfold actB
      by_cases hn : a.Next = m.States
      · by_cases hz : a.Write = 0 ∧ a.Move = 0
        · simp [hn, hz]; omega
        · have : (a.Write == 0 && a.Move == 0) = false := by simpa using hz
          simp only [hn, if_true, this]
          split
          · simp
          · rw [if_pos (by
              simp only [beq_self_eq_true, Bool.true_and, Bool.or_eq_true, bne_iff_ne]
              by_cases hw : a.Write = 0
              · exact .inr (fun hm => hz ⟨hw, hm⟩)
              · exact .inl hw)]
            simp
      · by_cases hg : 0 ≤ a.Write ∧ a.Write < m.Symbols ∧ 0 ≤ a.Move ∧ a.Move < 2 ∧ 0 ≤ a.Next ∧ a.Next < m.States
        · have hm : a.Move = 0 ∨ a.Move = 1 := by omega
          rw [if_neg (by simp; omega), if_neg (by simp [hn])]
          simp [hn, hg]
        · rw [if_pos (by simp; omega)]
          simp [hn, hg]
    · have h' : ¬ (i : Int) < (m.Actions.length : Int) := by omega
      rw [dif_neg h, if_neg (by simpa using h')]) m.Actions.length k 0 (by simp) hk
  simpa using this
theorem firstS_const {α : Type} {p : α → Bool} : ∀ (xs : List α) (i : Nat), firstS (fun _ a => if p a = true then none else some false) i xs = if xs.all p = true then none else some false
  | [], i => rfl
  | a :: r, i => by
    rw [firstS]
    cases h : p a
    · simp [h]
    · simp only [h, if_true, List.all_cons, Bool.true_and]; exact firstS_const r (i + 1)
theorem valid2 (m : Machine) (k : Nat) (hk : 25 ≤ k) : ref08_Valid k m = some (validB m) := by
  unfold ref08_Valid validB dimB
  by_cases h : 1 ≤ m.States ∧ m.States ≤ 6 ∧ 2 ≤ m.Symbols ∧ m.Symbols ≤ 4
  · obtain ⟨hw, h24, _⟩ := dim_w64 h
    rw [hw]
    by_cases hl : (m.Actions.length : Int) = m.States * m.Symbols
    · rw [if_neg (by simp [hl]; omega), ref_valid_loop m h (by omega) k (by omega), firstS_const]
      cases m.Actions.all (actB m) <;> simp [h, hl, fin, sumb]
    · rw [if_pos (by simp [hl])]
      simp [hl]
  · rw [if_pos (by simp; omega)]
    have : ¬ (1 ≤ m.States ∧ m.States ≤ 6 ∧ 2 ≤ m.Symbols ∧ m.Symbols ≤ 4 ∧ (m.Actions.length : Int) = m.States * m.Symbols) := fun hh => h ⟨hh.1, hh.2.1, hh.2.2.1, hh.2.2.2.1⟩
    simp [this]
theorem awake_ok (k : Nat) : law08_awake (k + 40) = some true := by kernel_rfl
end Gp
set_option linter.unusedVariables false
set_option linter.unusedSimpArgs false
namespace Gp
open Gw Gq
/-! ### configurations -/
def celB (m : Machine) (s : Int) : Bool := decide (0 ≤ s ∧ s < m.Symbols)
def placeB (m : Machine) (c : Config) : Bool := decide (0 ≤ c.State ∧ c.State < m.States ∧ 1 ≤ (c.Cells.length : Int) ∧ (c.Cells.length : Int) ≤ 200 ∧ 0 ≤ c.At ∧ c.At < (c.Cells.length : Int))
def fitsB (m : Machine) (c : Config) : Bool := validB m && placeB m c && c.Cells.all (celB m)
theorem idx_fits (m : Machine) (xs : List Int) (hl : xs.length ≤ 1000000) (k : Nat) (hk : xs.length < k) :
    slices_IndexFunc_int_int_with_machine_Fits_1.l0 k 0 xs m = some (fin (firstS (fun i a => if celB m a = true then none else some (i : Int)) 0 xs)) := by
  have := scan (F := fun k i => slices_IndexFunc_int_int_with_machine_Fits_1.l0 k i xs m) (xs := xs) (g := fun i a => if celB m a = true then none else some (i : Int)) (fun k i hi => by
    show slices_IndexFunc_int_int_with_machine_Fits_1.l0 (k + 1) i xs m = _
    rw [slices_IndexFunc_int_int_with_machine_Fits_1.l0]
    by_cases h : i < xs.length
    · have h' : (i : Int) < (xs.length : Int) := by omega
      have h2 : 0 ≤ (i : Int) ∧ (i : Int) < (xs.length : Int) := by omega
      rw [dif_pos h, if_pos (by simpa using h'), if_pos h2, rdD_get h, machine_Fits_1, w64_id (by omega) (by omega)]
      by_cases hb : 0 ≤ xs[i] ∧ xs[i] < m.Symbols
      · have h3 : ¬ (xs[i] < 0 ∨ m.Symbols ≤ xs[i]) := by omega
        simp [celB, hb]
        intro hh; exact absurd hh h3
      · have h3 : (xs[i] < 0 ∨ m.Symbols ≤ xs[i]) := by omega
        simp [celB, hb, h3]
    · have h' : ¬ (i : Int) < (xs.length : Int) := by omega
      rw [dif_neg h, if_neg (by simpa using h')]) xs.length k 0 (by simp) hk
  simpa using this
theorem contains_fits (m : Machine) (xs : List Int) (hl : xs.length ≤ 1000000) (k : Nat) (hk : xs.length < k) :
    slices_ContainsFunc_int_int_with_machine_Fits_1 k xs m = some (!xs.all (celB m)) := by
  unfold slices_ContainsFunc_int_int_with_machine_Fits_1 slices_IndexFunc_int_int_with_machine_Fits_1
  rw [idx_fits m xs hl k hk]
  have := firstS_ge (p := celB m) xs 0
  rw [← this]
  cases firstS (fun i a => if celB m a = true then none else some (i : Int)) 0 xs <;> simp [fin, sumb]
theorem fits1 (m : Machine) (c : Config) (k : Nat) (hk : 201 ≤ k) : machine_Fits k m c = some (fitsB m c) := by
  unfold machine_Fits
  rw [valid1 m k (by omega)]
  unfold fitsB placeB
  cases hv : validB m
  · simp
  · by_cases h : 0 ≤ c.State ∧ c.State < m.States ∧ 1 ≤ (c.Cells.length : Int) ∧ (c.Cells.length : Int) ≤ 200 ∧ 0 ≤ c.At ∧ c.At < (c.Cells.length : Int)
    · rw [Option.bind_some, if_pos (by simp; omega), contains_fits m c.Cells (by omega) k (by omega)]
      simp [h]
    · rw [Option.bind_some, if_neg (by simp; omega)]
      simp [h]
theorem ref_fits_loop (m : Machine) (c : Config) (hl : c.Cells.length ≤ 1000000) (k : Nat) (hk : c.Cells.length < k) :
    ref08_Fits.l0 k 0 m c = some (fin (firstS (fun _ a => if celB m a = true then none else some false) 0 c.Cells)) := by
  have := scan (F := fun k i => ref08_Fits.l0 k i m c) (xs := c.Cells) (g := fun _ a => if celB m a = true then none else some false) (fun k i hi => by
    show ref08_Fits.l0 (k + 1) i m c = _
    rw [ref08_Fits.l0]
    by_cases h : i < c.Cells.length
    · have h' : (i : Int) < (c.Cells.length : Int) := by omega
      have h2 : 0 ≤ (i : Int) ∧ (i : Int) < (c.Cells.length : Int) := by omega
      rw [dif_pos h, if_pos (by simpa using h'), if_pos h2, if_pos h2, rdD_get h, w64_id (by omega) (by omega)]
      by_cases h0 : c.Cells[i] < 0
      · have : ¬ (0 ≤ c.Cells[i] ∧ c.Cells[i] < m.Symbols) := by omega
        simp [h0, celB, this]
      · by_cases h1 : m.Symbols ≤ c.Cells[i]
        · have : ¬ (0 ≤ c.Cells[i] ∧ c.Cells[i] < m.Symbols) := by omega
          simp [h0, h1, celB, this]
        · have : (0 ≤ c.Cells[i] ∧ c.Cells[i] < m.Symbols) := by omega
          simp [h0, h1, celB, this]
    · have h' : ¬ (i : Int) < (c.Cells.length : Int) := by omega
      rw [dif_neg h, if_neg (by simpa using h')]) c.Cells.length k 0 (by simp) hk
  simpa using this
theorem fits2 (m : Machine) (c : Config) (k : Nat) (hk : 201 ≤ k) : ref08_Fits k m c = some (fitsB m c) := by
  unfold ref08_Fits
  rw [valid2 m k (by omega)]
  unfold fitsB placeB
  cases hv : validB m
  · simp
  · by_cases h : 0 ≤ c.State ∧ c.State < m.States ∧ 1 ≤ (c.Cells.length : Int) ∧ (c.Cells.length : Int) ≤ 200 ∧ 0 ≤ c.At ∧ c.At < (c.Cells.length : Int)
    · rw [Option.bind_some, if_neg (by simp; omega), ref_fits_loop m c (by omega) k (by omega), firstS_const]
      cases c.Cells.all (celB m) <;> simp [h, fin, sumb]
    · rw [Option.bind_some, if_pos (by simp; omega)]
      simp [h]
/-! equality -/
theorem same_loop (a b : Config) (hab : a.Cells.length = b.Cells.length) (hl : a.Cells.length ≤ 1000000) (k : Nat) (hk : a.Cells.length < k) :
    ref08_SameConfig.l0 k 0 a b = some (fin (firstS (fun i x => if x = b.Cells.getD i 0 then none else some false) 0 a.Cells)) := by
  have := scan (F := fun k i => ref08_SameConfig.l0 k i a b) (xs := a.Cells) (g := fun i x => if x = b.Cells.getD i 0 then none else some false) (fun k i hi => by
    show ref08_SameConfig.l0 (k + 1) i a b = _
    rw [ref08_SameConfig.l0]
    by_cases h : i < a.Cells.length
    · have h' : (i : Int) < (a.Cells.length : Int) := by omega
      have h2 : 0 ≤ (i : Int) ∧ (i : Int) < (a.Cells.length : Int) := by omega
      have h3 : 0 ≤ (i : Int) ∧ (i : Int) < (b.Cells.length : Int) := by omega
      rw [dif_pos h, if_pos (by simpa using h'), if_pos h2, if_pos h3, rdD_get h, rdD_nat, w64_id (by omega) (by omega)]
      by_cases he : a.Cells[i] = b.Cells.getD i 0 <;> simp only [he, bne_self_eq_false, if_true, if_false, Bool.false_eq_true, bne_iff_ne, ne_eq, not_false_eq_true, not_true_eq_false] <;> rfl
    · have h' : ¬ (i : Int) < (a.Cells.length : Int) := by omega
      rw [dif_neg h, if_neg (by simpa using h')]) a.Cells.length k 0 (by simp) hk
  simpa using this
theorem firstS_eq (b : List Int) : ∀ (a : List Int) (i : Nat), i + a.length = b.length → firstS (fun i x => if x = b.getD i 0 then none else some false) i a = if a = b.drop i then none else some false
  | [], i, h => by
    have : b.drop i = [] := List.drop_eq_nil_of_le (by simp at h; omega)
    simp [firstS, this]
  | x :: r, i, h => by
    have hi : i < b.length := by simp at h; omega
    rw [firstS, List.drop_eq_getElem_cons hi, firstS_eq b r (i + 1) (by simp at h; omega)]
    have hg : b.getD i 0 = b[i] := by simp [List.getD, List.getElem?_eq_getElem hi]
    rw [hg]
    by_cases hx : x = b[i]
    · subst hx
      rw [if_pos rfl]
      by_cases hr : r = b.drop (i + 1)
      · rw [if_pos hr, if_pos (by rw [hr])]
      · rw [if_neg hr, if_neg (fun h => hr (List.cons.inj h).2)]
    · rw [if_neg hx, if_neg (fun h => hx (List.cons.inj h).1)]
theorem same_eq (a b : Config) (hl : a.Cells.length ≤ 1000000) (k : Nat) (hk : a.Cells.length < k) : ref08_SameConfig k a b = some (decide (a = b)) := by
  unfold ref08_SameConfig
  by_cases h1 : a.State = b.State
  · by_cases h2 : a.At = b.At
    · by_cases h3 : a.Cells.length = b.Cells.length
      · rw [if_neg (by simp [h1, h2, h3]), same_loop a b h3 hl k hk, firstS_eq b.Cells a.Cells 0 (by simpa using h3)]
        by_cases h4 : a.Cells = b.Cells
        · have : a = b := by cases a; cases b; simp_all
          simp [this, fin, sumb]
        · have : a ≠ b := fun h => h4 (by rw [h])
          simp [h4, this, fin, sumb]
      · have : a ≠ b := fun h => h3 (by rw [h])
        rw [if_pos (by simp; omega)]; simp [this]
    · have : a ≠ b := fun h => h2 (by rw [h])
      rw [if_pos (by simp [h2])]; simp [this]
  · have : a ≠ b := fun h => h1 (by rw [h])
    rw [if_pos (by simp [h1])]; simp [this]
end Gp
set_option linter.unusedVariables false
set_option linter.unusedSimpArgs false
namespace Gp
open Gw Gq
/-! ### steps -/
def zC : Config := ⟨0, 0, []⟩
def actOf (m : Machine) (c : Config) : Action := rdD m.Actions (c.State * m.Symbols + rdD c.Cells c.At 0) z_Action
def toOf (m : Machine) (c : Config) : Int := c.At + 2 * (actOf m c).Move - 1
def nextC (m : Machine) (c : Config) : Config := ⟨(actOf m c).Next, toOf m c, c.Cells.set c.At.toNat (actOf m c).Write⟩
def noStep (m : Machine) (c : Config) : Int := if (actOf m c).Next = m.States then 5 else if toOf m c < 0 ∨ (c.Cells.length : Int) ≤ toOf m c then 6 else 0
structure Fit (m : Machine) (c : Config) : Prop where
  dim : 1 ≤ m.States ∧ m.States ≤ 6 ∧ 2 ≤ m.Symbols ∧ m.Symbols ≤ 4
  len : (m.Actions.length : Int) = m.States * m.Symbols
  act : ∀ a ∈ m.Actions, actB m a = true
  place : 0 ≤ c.State ∧ c.State < m.States ∧ 1 ≤ (c.Cells.length : Int) ∧ (c.Cells.length : Int) ≤ 200 ∧ 0 ≤ c.At ∧ c.At < (c.Cells.length : Int)
  cel : ∀ s ∈ c.Cells, 0 ≤ s ∧ s < m.Symbols
theorem fit_of {m : Machine} {c : Config} (h : fitsB m c = true) : Fit m c := by
  unfold fitsB validB dimB placeB at h
  simp only [Bool.and_eq_true, decide_eq_true_eq, List.all_eq_true] at h
  obtain ⟨⟨⟨h1, h2⟩, h3⟩, h4⟩ := h
  exact ⟨⟨h1.1, h1.2.1, h1.2.2.1, h1.2.2.2.1⟩, h1.2.2.2.2, h2, h3, fun s hs => by have := h4 s hs; simpa [celB] using this⟩
theorem of_fit {m : Machine} {c : Config} (h : Fit m c) : fitsB m c = true := by
  unfold fitsB validB dimB placeB
  simp only [Bool.and_eq_true, decide_eq_true_eq, List.all_eq_true]
  exact ⟨⟨⟨⟨h.dim.1, h.dim.2.1, h.dim.2.2.1, h.dim.2.2.2, h.len⟩, h.act⟩, h.place⟩, fun s hs => by have := h.cel s hs; simpa [celB] using this⟩
theorem rdD_mem {α : Type} {xs : List α} {i : Int} (h0 : 0 ≤ i) (h1 : i < (xs.length : Int)) (d : α) : rdD xs i d ∈ xs := by
  have : i.toNat < xs.length := by omega
  unfold rdD
  rw [List.getD_eq_getElem?_getD, List.getElem?_eq_getElem this]
  simp
theorem Fit.cell {m : Machine} {c : Config} (h : Fit m c) : 0 ≤ rdD c.Cells c.At 0 ∧ rdD c.Cells c.At 0 < m.Symbols := h.cel _ (rdD_mem h.place.2.2.2.2.1 h.place.2.2.2.2.2 0)
theorem Fit.state {m : Machine} {c : Config} (h : Fit m c) {s : Int} (hs : 0 ≤ s ∧ s < m.Symbols) {q : Int} (hq : 0 ≤ q ∧ q < m.States) : 0 ≤ q * m.Symbols + s ∧ q * m.Symbols + s < (m.Actions.length : Int) ∧ q * m.Symbols + s < 24 ∧ 0 ≤ q * m.Symbols ∧ q * m.Symbols < 24 := by
  have hd := h.dim
  have hl := h.len
  have hp := dim_w64 hd
  have hm : (q + 1) * m.Symbols ≤ m.States * m.Symbols := Int.mul_le_mul_of_nonneg_right (by omega) (by omega)
  have h0 : 0 ≤ q * m.Symbols := Int.mul_nonneg hq.1 (by omega)
  rw [Int.add_mul, Int.one_mul] at hm
  refine ⟨by omega, by rw [hl]; omega, by omega, h0, by omega⟩
theorem Fit.idx {m : Machine} {c : Config} (h : Fit m c) : 0 ≤ c.State * m.Symbols + rdD c.Cells c.At 0 ∧ c.State * m.Symbols + rdD c.Cells c.At 0 < (m.Actions.length : Int) ∧ c.State * m.Symbols + rdD c.Cells c.At 0 < 24 ∧ 0 ≤ c.State * m.Symbols ∧ c.State * m.Symbols < 24 :=
  h.state h.cell ⟨h.place.1, h.place.2.1⟩
theorem Fit.widx {m : Machine} {c : Config} (h : Fit m c) : w64 (w64 (c.State * m.Symbols) + rdD c.Cells c.At 0) = c.State * m.Symbols + rdD c.Cells c.At 0 := by
  have hi := h.idx
  rw [w64_id (n := c.State * m.Symbols) (by omega) (by omega), w64_id (by omega) (by omega)]
theorem Fit.actOf {m : Machine} {c : Config} (h : Fit m c) : actB m (actOf m c) = true := h.act _ (rdD_mem h.idx.1 h.idx.2.1 _)
theorem actB_cases {m : Machine} {a : Action} (h : actB m a = true) : (a.Next = m.States ∧ a.Write = 0 ∧ a.Move = 0) ∨ (a.Next ≠ m.States ∧ 0 ≤ a.Write ∧ a.Write < m.Symbols ∧ (a.Move = 0 ∨ a.Move = 1) ∧ 0 ≤ a.Next ∧ a.Next < m.States) := by
  unfold actB at h
  split at h
  · rename_i hn
    simp only [Bool.and_eq_true, beq_iff_eq] at h
    exact .inl ⟨hn, h.1, h.2⟩
  · rename_i hn
    simp only [decide_eq_true_eq] at h
    exact .inr ⟨hn, h.1, h.2.1, by omega, h.2.2.2.2.1, h.2.2.2.2.2⟩
theorem Fit.move {m : Machine} {c : Config} (h : Fit m c) : (Gp.actOf m c).Move = 0 ∨ (Gp.actOf m c).Move = 1 := by
  rcases actB_cases h.actOf with h | h
  · exact .inl h.2.2
  · exact h.2.2.2.1
theorem Fit.next {m : Machine} {c : Config} (h : Fit m c) (hs : noStep m c = 0) : Fit m (nextC m c) := by
  unfold noStep at hs
  split at hs
  · cases hs
  · rename_i hn
    split at hs
    · cases hs
    · rename_i ht
      rcases actB_cases h.actOf with ha | ha
      · exact absurd ha.1 hn
      · refine ⟨h.dim, h.len, h.act, ?_, fun s hs => ?_⟩
        · have := h.place
          simp only [nextC, List.length_set]
          exact ⟨ha.2.2.2.2.1, ha.2.2.2.2.2, by omega, by omega, by omega, by omega⟩
        · rcases List.mem_or_eq_of_mem_set hs with h1 | h1
          · exact h.cel s h1
          · rw [h1]; exact ⟨ha.2.1, ha.2.2.1⟩
theorem does_eq {m : Machine} {c : Config} (h : Fit m c) : machine_runner_does ⟨m, c⟩ = some (c.State * m.Symbols + rdD c.Cells c.At 0) := by
  unfold machine_runner_does
  rw [if_pos ⟨h.place.2.2.2.2.1, h.place.2.2.2.2.2⟩, h.widx]
theorem Fit.wto {m : Machine} {c : Config} (h : Fit m c) : w64 (w64 (c.At + w64 (2 * (Gp.actOf m c).Move)) - 1) = toOf m c := by
  have hm := h.move
  have hp := h.place
  rw [w64_id (n := 2 * (Gp.actOf m c).Move) (by omega) (by omega), w64_id (n := c.At + 2 * (Gp.actOf m c).Move) (by omega) (by omega), w64_id (by omega) (by omega)]; rfl
theorem rstep_eq {m : Machine} {c : Config} (h : Fit m c) : machine_runner_step ⟨m, c⟩ = some (noStep m c, ⟨m, if noStep m c = 0 then nextC m c else c⟩) := by
  unfold machine_runner_step
  have hi := h.idx
  rw [does_eq h, Option.bind_some, if_pos ⟨hi.1, hi.2.1⟩, Option.bind_some]
  show (if ((actOf m c).Next == m.States) = true then _ else _) = _
  simp only
  rw [show (rdD m.Actions (c.State * m.Symbols + rdD c.Cells c.At 0) z_Action) = actOf m c from rfl, h.wto]
  unfold noStep
  by_cases hn : (actOf m c).Next = m.States
  · simp [hn]
  · rw [if_neg (by simpa using hn)]
    by_cases ht : toOf m c < 0 ∨ (c.Cells.length : Int) ≤ toOf m c
    · rw [if_pos (by simpa [ge_iff_le] using ht)]; simp [hn, ht]
    · rw [if_neg (by simpa [ge_iff_le] using ht), if_pos ⟨h.place.2.2.2.2.1, h.place.2.2.2.2.2⟩]; simp [hn, ht, nextC]
theorem clone_eq {xs : List Int} (h : xs.length ≤ 1000000) : slices_Clone_int_int xs = some xs := by
  unfold slices_Clone_int_int slices_Clone_int_int_some
  rw [if_pos (by simp; omega)]; rfl
theorem begin_eq {m : Machine} {c : Config} (h : c.Cells.length ≤ 1000000) : machine_begin m c = some ⟨m, c⟩ := by
  unfold machine_begin
  rw [clone_eq h]; rfl
def stepS (m : Machine) (c : Config) : Config × Int := if noStep m c = 0 then (nextC m c, 0) else (zC, noStep m c)
/-! ### runs -/
def runS (m : Machine) : Nat → Config → Config × Nat
  | 0, c => (c, 0)
  | n + 1, c => if noStep m c = 0 then ((runS m n (nextC m c)).1, (runS m n (nextC m c)).2 + 1) else (c, 0)
theorem run_fit {m : Machine} : ∀ (n : Nat) {c : Config}, Fit m c → Fit m (runS m n c).1
  | 0, c, h => h
  | n + 1, c, h => by
    rw [runS]
    split
    · rename_i hn; exact run_fit n (h.next hn)
    · exact h
theorem run_le {m : Machine} : ∀ (n : Nat) (c : Config), (runS m n c).2 ≤ n
  | 0, c => Nat.le_refl _
  | n + 1, c => by
    rw [runS]
    split
    · have := run_le (m := m) n (nextC m c); simp only; omega
    · simp
theorem run1_loop {m : Machine} {n : Int} (hn : n ≤ 1000000) : ∀ (d k : Nat) (i : Int) (c : Config), 0 ≤ i → i + d = n → d < k → Fit m c →
    machine_Run.l0 k m.States m.Symbols c.State c.At c.Cells i m n = some (m.States, m.Symbols, (runS m d c).1.State, (runS m d c).1.At, (runS m d c).1.Cells, i + (runS m d c).2)
  | 0, k, i, c, h0, hd, hk, h => by
    obtain ⟨k, rfl⟩ : ∃ m, k = m + 1 := ⟨k - 1, by omega⟩
    rw [machine_Run.l0, if_neg (by simp; omega)]
    simp [runS]
  | d + 1, k, i, c, h0, hd, hk, h => by
    obtain ⟨k, rfl⟩ : ∃ m, k = m + 1 := ⟨k - 1, by omega⟩
    rw [machine_Run.l0, if_pos (by simp; omega)]
    rw [show (Runner.mk (Machine.mk m.States m.Symbols m.Actions) (Config.mk c.State c.At c.Cells)) = ⟨m, c⟩ from rfl, rstep_eq h, Option.bind_some, Option.bind_some]
    rw [runS]
    by_cases hs : noStep m c = 0
    · simp only [hs, if_true, beq_self_eq_true]
      rw [w64_id (by omega) (by omega)]
      have := run1_loop hn d k (i + 1) (nextC m c) (by omega) (by omega) (by omega) (h.next hs)
      rw [this]
      simp only [Option.some.injEq, Prod.mk.injEq, true_and]
      push_cast; omega
    · simp [hs]
theorem run1 {m : Machine} {c : Config} {n : Int} {k : Nat} (hk : 201 ≤ k) (hk2 : n.toNat < k) (hn : n ≤ 1000000) (h0 : 0 ≤ n) (hn2 : n ≤ 100000) (h : Fit m c) :
    machine_Run k m c n = some ((runS m n.toNat c).1, ((runS m n.toNat c).2 : Int), 0) := by
  unfold machine_Run
  rw [fits1 m c k hk, Option.bind_some, of_fit h, if_neg (by simp), if_neg (by simp; omega), begin_eq (by have := h.place; omega), Option.bind_some]
  rw [run1_loop hn n.toNat k 0 c (by omega) (by omega) hk2 h]
  simp
end Gp
set_option linter.unusedVariables false
set_option linter.unusedSimpArgs false
namespace Gp
open Gw Gq
theorem stepS_len {m : Machine} {c : Config} (h : Fit m c) : (stepS m c).1.Cells.length ≤ 200 := by
  unfold stepS
  have := h.place
  split
  · simp [nextC]; omega
  · simp [zC]
end Gp
set_option linter.unusedVariables false
set_option linter.unusedSimpArgs false
namespace Gq
theorem loop_to {σ τ : Type} {F : Nat → Int → σ → Option τ} {S : Nat → σ} {n K : Nat} {r : τ} (hs : ∀ k i, K ≤ k → i < n → F (k + 1) (i : Int) (S i) = F k ((i + 1 : Nat) : Int) (S (i + 1))) (he : ∀ k, F (k + 1) (n : Int) (S n) = some r) :
    ∀ k, n + K < k → F k 0 (S 0) = some r := by
  have key : ∀ d i k, i + d = n → d + K < k → F k (i : Int) (S i) = some r := by
    intro d
    induction d with
    | zero =>
      intro i k hi hk
      obtain ⟨k, rfl⟩ : ∃ m, k = m + 1 := ⟨k - 1, by omega⟩
      have : i = n := by omega
      subst this; exact he k
    | succ d ih =>
      intro i k hi hk
      obtain ⟨k, rfl⟩ : ∃ m, k = m + 1 := ⟨k - 1, by omega⟩
      rw [hs k i (by omega) (by omega)]
      exact ih (i + 1) k (by omega) (by omega)
  intro k hk
  exact key n 0 k (by omega) hk
theorem range_mul {α : Type} (f : Nat → List α) (Y : Nat) : ∀ S : Nat, (List.range (S * Y)).flatMap f = (List.range S).flatMap fun q => (List.range Y).flatMap fun s => f (q * Y + s)
  | 0 => by simp
  | S + 1 => by
    rw [Nat.add_mul, Nat.one_mul, List.range_add, List.flatMap_append, range_mul f Y S, List.range_succ, List.flatMap_append, List.flatMap_map]
    simp
theorem flat_succ {α : Type} (f : Nat → List α) (n : Nat) : (List.range (n + 1)).flatMap f = (List.range n).flatMap f ++ f n := by
  rw [List.range_succ, List.flatMap_append]; simp
theorem map_succ {α : Type} (f : Nat → α) (n : Nat) : (List.range (n + 1)).map f = (List.range n).map f ++ [f n] := by
  rw [List.range_succ, List.map_append]; simp
theorem flat_len1 {α : Type} {f : Nat → List α} {b : Nat} (hf : ∀ i, (f i).length ≤ b) : ∀ n, ((List.range n).flatMap f).length ≤ n * b
  | 0 => by simp
  | n + 1 => by
    rw [flat_succ, List.length_append, Nat.add_mul, Nat.one_mul]
    have := flat_len1 hf n
    have := hf n
    omega
end Gq
namespace Gp
open Gw Gq
/-! ### the tiles of a machine -/
structure Val (m : Machine) (S Y : Nat) : Prop where
  sS : m.States = S
  sY : m.Symbols = Y
  dS : 1 ≤ S ∧ S ≤ 6
  dY : 2 ≤ Y ∧ Y ≤ 4
  len : m.Actions.length = S * Y
  act : ∀ a ∈ m.Actions, actB m a = true
theorem val_of {m : Machine} (h : validB m = true) : ∃ S Y, Val m S Y := by
  unfold validB dimB at h
  simp only [Bool.and_eq_true, decide_eq_true_eq, List.all_eq_true] at h
  obtain ⟨⟨h1, h2, h3, h4, h5⟩, h6⟩ := h
  refine ⟨m.States.toNat, m.Symbols.toNat, by omega, by omega, by omega, by omega, ?_, h6⟩
  have : ((m.States.toNat * m.Symbols.toNat : Nat) : Int) = m.States * m.Symbols := by rw [Int.natCast_mul, Int.toNat_of_nonneg (by omega), Int.toNat_of_nonneg (by omega)]
  omega
theorem Val.le {m : Machine} {S Y : Nat} (v : Val m S Y) : S * Y ≤ 24 := by
  have := Nat.mul_le_mul v.dS.2 v.dY.2; omega
theorem Val.get {m : Machine} {S Y : Nat} (v : Val m S Y) {i : Nat} (hi : i < S * Y) : actB m (m.Actions.getD i z_Action) = true := by
  have h : i < m.Actions.length := by rw [v.len]; exact hi
  refine v.act _ ?_
  simp [List.getElem?_eq_getElem h]
def hd (Y q s : Nat) : Int := ((Y + q * Y + s : Nat) : Int)
theorem head_eq {m : Machine} {S Y : Nat} (v : Val m S Y) {q s : Nat} (hq : q ≤ S) (hs : s ≤ Y) : machine_head m q s = some (hd Y q s) := by
  have h1 := v.dS; have h2 := v.dY
  have : q * Y ≤ 24 := by have := Nat.mul_le_mul (show q ≤ 6 by omega) h2.2; omega
  unfold machine_head hd
  rw [v.sY, w64_id (n := (q : Int) * Y) (by rw [← Int.natCast_mul]; omega) (by rw [← Int.natCast_mul]; omega), ← Int.natCast_mul, w64_id (n := (Y : Int) + (q * Y : Nat)) (by omega) (by omega), w64_id (by omega) (by omega)]
  congr 1
theorem both_eq {m : Machine} {S Y : Nat} (v : Val m S Y) {q s : Nat} (hq : q ≤ S) (hs : s ≤ Y) : ref08_both m q s = some (hd Y q s) := head_eq v hq hs
def symT (s : Nat) : Tile := ⟨s, 0, s, 0⟩
def actT (S Y q s : Nat) (a : Action) : Tile := if a.Move = 0 then ⟨a.Write, 0, hd Y q s, 1 + S + a.Next⟩ else ⟨a.Write, 1 + a.Next, hd Y q s, 0⟩
def actL (m : Machine) (S Y i : Nat) : List Tile := if (m.Actions.getD i z_Action).Next = S then [] else [actT S Y (i / Y) (i % Y) (m.Actions.getD i z_Action)]
def arrL (S Y q s : Nat) : List Tile := [⟨hd Y q s, 0, s, 1 + q⟩, ⟨hd Y q s, 1 + S + q, s, 0⟩]
def symL (Y n : Nat) : List Tile := (List.range n).map symT
def set1 (m : Machine) (S Y n : Nat) : List Tile := symL Y Y ++ (List.range n).flatMap (actL m S Y)
def setS (m : Machine) (S Y : Nat) : List Tile := set1 m S Y (S * Y) ++ (List.range S).flatMap fun q => (List.range Y).flatMap (arrL S Y q)
def doesAt (m : Machine) (S Y i : Nat) : Int := if (m.Actions.getD i z_Action).Next = S then -1 else ((set1 m S Y i).length : Int)
def doesS (m : Machine) (S Y n : Nat) : List Int := (List.range n).map (doesAt m S Y)
theorem actL_len (m : Machine) (S Y i : Nat) : (actL m S Y i).length ≤ 1 := by unfold actL; split <;> simp
theorem set1_len (m : Machine) {S Y : Nat} (hY : Y ≤ 4) (n : Nat) : (set1 m S Y n).length ≤ 4 + n := by
  unfold set1 symL
  have := flat_len1 (actL_len m S Y) n
  rw [List.length_append, List.length_map, List.length_range]; omega
theorem kit_l0 {m : Machine} {S Y : Nat} (v : Val m S Y) {k : Nat} (hk : Y < k) : machine_kitOf.l0 k [] 0 m = some (symL Y Y) := by
  have := loop_to (F := fun k i l => machine_kitOf.l0 k l i m) (S := symL Y) (n := Y) (K := 0) (r := symL Y Y) (fun k i _ hi => by
    have hd := v.dY
    show machine_kitOf.l0 (k + 1) (symL Y i) i m = _
    rw [machine_kitOf.l0, if_pos (by rw [v.sY]; simpa using hi), if_pos (by simp [symL]; omega), w64_id (by omega) (by omega)]
    unfold symL
    rw [map_succ]; rfl) (fun k => by
    show machine_kitOf.l0 (k + 1) (symL Y Y) Y m = _
    rw [machine_kitOf.l0, if_neg (by rw [v.sY]; simp)]) k (by omega)
  exact this
theorem acts_eq {m : Machine} {S Y : Nat} (v : Val m S Y) {i : Nat} (hi : i < S * Y) (st : List Tile) (ds : List Int) (b : Int) (hn : (m.Actions.getD i z_Action).Next ≠ S) :
    machine_kit_acts ⟨m, st, ds, b⟩ ((i / Y : Nat) : Int) ((i % Y : Nat) : Int) (m.Actions.getD i z_Action) = some (actT S Y (i / Y) (i % Y) (m.Actions.getD i z_Action)) := by
  have h1 := v.dS; have h2 := v.dY
  have hq : i / Y < S := Nat.div_lt_of_lt_mul (by rw [Nat.mul_comm]; exact hi)
  have hs : i % Y < Y := Nat.mod_lt _ (by omega)
  have ha := actB_cases (v.get hi)
  rw [v.sS, v.sY] at ha
  generalize m.Actions.getD i z_Action = a at ha hn ⊢
  rcases ha with ha | ha
  · exact absurd ha.1 hn
  · obtain ⟨_, _, _, hm, h5, h6⟩ := ha
    unfold machine_kit_acts machine_kit_signal actT
    rw [show (Kit.mk m st ds b).m = m from rfl, head_eq v (by omega) (by omega), v.sS]
    rcases hm with hm | hm
    · simp only [hm, Option.bind_some, beq_self_eq_true, if_true]
      rw [if_neg (by simp), w64_id (n := 1 + (S : Int)) (by omega) (by omega), w64_id (by omega) (by omega)]; rfl
    · simp only [hm, Option.bind_some, beq_self_eq_true, if_true]
      rw [w64_id (by omega) (by omega)]; rfl
theorem kit_l1 {m : Machine} {S Y : Nat} (v : Val m S Y) {k : Nat} (hk : S * Y < k) : machine_kitOf.l1 k (symL Y Y) [] 0 m = some (set1 m S Y (S * Y), doesS m S Y (S * Y)) := by
  have := loop_to (F := fun k i (l : List Tile × List Int) => machine_kitOf.l1 k l.1 l.2 i m) (S := fun i => (set1 m S Y i, doesS m S Y i)) (n := S * Y) (K := 0) (r := (set1 m S Y (S * Y), doesS m S Y (S * Y))) (fun k i _ hi => by
    have h24 := v.le
    have hdY := v.dY
    show machine_kitOf.l1 (k + 1) (set1 m S Y i) (doesS m S Y i) i m = machine_kitOf.l1 k (set1 m S Y (i + 1)) (doesS m S Y (i + 1)) ((i + 1 : Nat) : Int) m
    have hl1 := set1_len m (S := S) hdY.2 i
    have hl2 : (doesS m S Y i).length = i := by simp [doesS]
    rw [machine_kitOf.l1, if_pos (by rw [v.len, decide_eq_true_eq]; omega), if_pos (by rw [v.len]; omega), rdD_nat, v.sS, v.sY]
    by_cases hn : (m.Actions.getD i z_Action).Next = S
    · rw [if_pos (by simpa using hn), if_pos (by simp [hl2]; omega), Option.bind_some, w64_id (by omega) (by omega)]
      have e1 : set1 m S Y (i + 1) = set1 m S Y i := by unfold set1; rw [flat_succ, actL, if_pos hn, List.append_nil]
      have e2 : doesS m S Y (i + 1) = doesS m S Y i ++ [-1] := by unfold doesS; rw [map_succ, doesAt, if_pos hn]
      rw [e1, e2]; rfl
    · have hdiv : w64 (Int.tdiv (i : Int) (Y : Int)) = ((i / Y : Nat) : Int) := by
        have : Int.tdiv (i : Int) (Y : Int) = ((i / Y : Nat) : Int) := rfl
        have h3 : ((i / Y : Nat) : Int) ≤ i := by exact_mod_cast Nat.div_le_self _ _
        have h4 : 0 ≤ ((i / Y : Nat) : Int) := Int.natCast_nonneg _
        rw [this]
        generalize ((i / Y : Nat) : Int) = z at h3 h4 ⊢
        exact w64_id (by omega) (by omega)
      have hmod : Int.tmod (i : Int) (Y : Int) = ((i % Y : Nat) : Int) := rfl
      rw [if_neg (by simpa using hn), if_pos (by simp [hl2]; omega), if_pos (by omega), hdiv, hmod, acts_eq v hi _ _ _ hn, Option.bind_some, if_pos (by simp; omega), Option.bind_some, w64_id (by omega) (by omega)]
      have e1 : set1 m S Y (i + 1) = set1 m S Y i ++ [actT S Y (i / Y) (i % Y) (m.Actions.getD i z_Action)] := by unfold set1; rw [flat_succ, actL, if_neg hn, List.append_assoc]
      have e2 : doesS m S Y (i + 1) = doesS m S Y i ++ [((set1 m S Y i).length : Int)] := by unfold doesS; rw [map_succ, doesAt, if_neg hn]
      rw [e1, e2]; rfl) (fun k => by
    show machine_kitOf.l1 (k + 1) (set1 m S Y (S * Y)) (doesS m S Y (S * Y)) ((S * Y : Nat) : Int) m = _
    rw [machine_kitOf.l1, if_neg (by rw [v.len]; simp)]) k (by omega)
  have e0 : set1 m S Y 0 = symL Y Y := by simp [set1]
  have e1 : doesS m S Y 0 = [] := by simp [doesS]
  rw [show (machine_kitOf.l1 k (symL Y Y) [] 0 m) = machine_kitOf.l1 k (set1 m S Y 0) (doesS m S Y 0) 0 m from by rw [e0, e1]]
  exact this
end Gp
set_option linter.unusedVariables false
set_option linter.unusedSimpArgs false
namespace Gp
open Gw Gq
def set2 (m : Machine) (S Y n : Nat) : List Tile := set1 m S Y (S * Y) ++ (List.range n).flatMap fun q => (List.range Y).flatMap (arrL S Y q)
theorem arr_len (S Y q n : Nat) : ((List.range n).flatMap (arrL S Y q)).length ≤ n * 2 := flat_len1 (fun i => by simp [arrL]) n
theorem arrs_len (S Y n : Nat) : ((List.range n).flatMap fun q => (List.range Y).flatMap (arrL S Y q)).length ≤ n * (Y * 2) := flat_len1 (fun q => arr_len S Y q Y) n
theorem set2_len {m : Machine} {S Y : Nat} (v : Val m S Y) {n : Nat} (hn : n ≤ S) : (set2 m S Y n).length ≤ 1000 := by
  have h1 := set1_len m (S := S) v.dY.2 (S * Y)
  have h2 := arrs_len S Y n
  have h3 := v.le
  have h4 : n * (Y * 2) ≤ 6 * 8 := Nat.mul_le_mul (by have := v.dS; omega) (by have := v.dY; omega)
  unfold set2
  rw [List.length_append]; omega
theorem signal_eq {m : Machine} {S Y : Nat} (v : Val m S Y) {q : Nat} (hq : q < S) (st : List Tile) (ds : List Int) (b : Int) : machine_kit_signal ⟨m, st, ds, b⟩ 1 q = some (1 + (q : Int)) ∧ machine_kit_signal ⟨m, st, ds, b⟩ 0 q = some (1 + (S : Int) + q) := by
  have h1 := v.dS
  unfold machine_kit_signal
  rw [v.sS]
  refine ⟨?_, ?_⟩
  · rw [if_pos (by simp), w64_id (by omega) (by omega)]
  · rw [if_neg (by simp), w64_id (n := 1 + (S : Int)) (by omega) (by omega), w64_id (by omega) (by omega)]
theorem kit_l3 {m : Machine} {S Y : Nat} (v : Val m S Y) {q : Nat} (hq : q < S) (x : List Tile × List Int) {k : Nat} (hk : Y < k) :
    machine_kitOf.l3 k (set2 m S Y q) 0 m x q = some (set2 m S Y (q + 1)) := by
  have hl0 := set2_len v (n := q) (by omega)
  have := loop_to (F := fun k i l => machine_kitOf.l3 k l i m x q) (S := fun i => set2 m S Y q ++ (List.range i).flatMap (arrL S Y q)) (n := Y) (K := 0) (r := set2 m S Y (q + 1)) (fun k i _ hi => by
    have hd := v.dY
    show machine_kitOf.l3 (k + 1) (set2 m S Y q ++ (List.range i).flatMap (arrL S Y q)) i m x q = _
    have hl := arr_len S Y q i
    have hs := signal_eq v hq (set2 m S Y q ++ (List.range i).flatMap (arrL S Y q)) x.2 (x.1.length : Int)
    rw [machine_kitOf.l3, if_pos (by rw [v.sY]; simpa using hi), head_eq v (by omega) (by omega), Option.bind_some, hs.1, Option.bind_some, hs.2, Option.bind_some, if_pos (by rw [List.length_append]; simp only [List.length_cons, List.length_nil]; omega), w64_id (by omega) (by omega), flat_succ, ← List.append_assoc]
    rfl) (fun k => by
    show machine_kitOf.l3 (k + 1) (set2 m S Y q ++ (List.range Y).flatMap (arrL S Y q)) Y m x q = _
    rw [machine_kitOf.l3, if_neg (by rw [v.sY]; simp)]
    unfold set2
    rw [flat_succ, List.append_assoc]) k (by omega)
  simpa using this
theorem kit_l2 {m : Machine} {S Y : Nat} (v : Val m S Y) (x : List Tile × List Int) {k : Nat} (hk : S + 5 < k) :
    machine_kitOf.l2 k (set2 m S Y 0) 0 m x = some (set2 m S Y S) :=
  loop_to (F := fun k i l => machine_kitOf.l2 k l i m x) (S := set2 m S Y) (n := S) (K := 5) (r := set2 m S Y S) (fun k i hk hi => by
    have hd := v.dS
    have hY := v.dY
    show machine_kitOf.l2 (k + 1) (set2 m S Y i) i m x = _
    rw [machine_kitOf.l2, if_pos (by rw [v.sS]; simpa using hi), kit_l3 v hi x (by omega), Option.bind_some, w64_id (by omega) (by omega)]; rfl) (fun k => by
    show machine_kitOf.l2 (k + 1) (set2 m S Y S) S m x = _
    rw [machine_kitOf.l2, if_neg (by rw [v.sS]; simp)]) k (by omega)
def kitS (m : Machine) (S Y : Nat) : Kit := ⟨m, setS m S Y, doesS m S Y (S * Y), ((set1 m S Y (S * Y)).length : Int)⟩
theorem kitOf_eq {m : Machine} {S Y : Nat} (v : Val m S Y) {k : Nat} (hk : 30 ≤ k) : machine_kitOf k m = some (kitS m S Y) := by
  have h1 := v.dS; have h2 := v.dY; have h3 := v.le
  unfold machine_kitOf
  rw [kit_l0 v (by omega), Option.bind_some, kit_l1 v (by omega), Option.bind_some]
  have e0 : set2 m S Y 0 = set1 m S Y (S * Y) := by simp [set2]
  rw [show machine_kitOf.l2 k (set1 m S Y (S * Y), doesS m S Y (S * Y)).1 0 m (set1 m S Y (S * Y), doesS m S Y (S * Y)) = machine_kitOf.l2 k (set2 m S Y 0) 0 m (set1 m S Y (S * Y), doesS m S Y (S * Y)) from by rw [e0], kit_l2 v _ (by omega)]
  rfl
/-! the reference -/
theorem rt_l0 {m : Machine} {S Y : Nat} (v : Val m S Y) {k : Nat} (hk : Y < k) : ref08_Tiles.l0 k [] 0 m = some (symL Y Y) := by
  have := loop_to (F := fun k i l => ref08_Tiles.l0 k l i m) (S := symL Y) (n := Y) (K := 0) (r := symL Y Y) (fun k i _ hi => by
    have hd := v.dY
    show ref08_Tiles.l0 (k + 1) (symL Y i) i m = _
    rw [ref08_Tiles.l0, if_pos (by rw [v.sY]; simpa using hi), if_pos (by simp [symL]; omega), w64_id (by omega) (by omega)]
    unfold symL
    rw [map_succ]; rfl) (fun k => by
    show ref08_Tiles.l0 (k + 1) (symL Y Y) Y m = _
    rw [ref08_Tiles.l0, if_neg (by rw [v.sY]; simp)]) k (by omega)
  exact this
theorem set1_mul (m : Machine) {S Y : Nat} (hY : 0 < Y) (n : Nat) : set1 m S Y (n * Y) = symL Y Y ++ (List.range n).flatMap fun q => (List.range Y).flatMap fun s => actL m S Y (q * Y + s) := by
  unfold set1; rw [range_mul]
theorem rt_l2 {m : Machine} {S Y : Nat} (v : Val m S Y) {q : Nat} (hq : q < S) {k : Nat} (hk : Y < k) :
    ref08_Tiles.l2 k (set1 m S Y (q * Y)) 0 m q = some (set1 m S Y ((q + 1) * Y)) := by
  have h1 := v.dS; have h2 := v.dY
  have hqY : q * Y + Y ≤ S * Y := by rw [← Nat.succ_mul]; exact Nat.mul_le_mul_right _ hq
  have h24 := v.le
  have := loop_to (F := fun k i l => ref08_Tiles.l2 k l i m q) (S := fun i => set1 m S Y (q * Y + i)) (n := Y) (K := 0) (r := set1 m S Y ((q + 1) * Y)) (fun k i _ hi => by
    show ref08_Tiles.l2 (k + 1) (set1 m S Y (q * Y + i)) i m q = ref08_Tiles.l2 k (set1 m S Y (q * Y + i + 1)) ((i + 1 : Nat) : Int) m q
    have hl := set1_len m (S := S) h2.2 (q * Y + i)
    have hw : w64 (w64 ((q : Int) * Y) + i) = ((q * Y + i : Nat) : Int) := by
      rw [← Int.natCast_mul, w64_id (n := ((q * Y : Nat) : Int)) (by omega) (by omega), w64_id (by omega) (by omega)]; rfl
    have ha := actB_cases (v.get (i := q * Y + i) (by omega))
    have hdv : (q * Y + i) / Y = q := by rw [Nat.add_comm, Nat.add_mul_div_right _ _ (by omega), Nat.div_eq_of_lt hi, Nat.zero_add]
    have hmd : (q * Y + i) % Y = i := by rw [Nat.add_comm, Nat.add_mul_mod_self_right, Nat.mod_eq_of_lt hi]
    rw [v.sS, v.sY] at ha
    rw [ref08_Tiles.l2, if_pos (by rw [v.sY]; simpa using hi), v.sY, hw, if_pos (by rw [v.len]; omega), rdD_nat, v.sS, both_eq v (by omega) (by omega)]
    have e1 : set1 m S Y (q * Y + i + 1) = set1 m S Y (q * Y + i) ++ actL m S Y (q * Y + i) := by unfold set1; rw [flat_succ, List.append_assoc]
    rw [e1]
    unfold actL
    rw [hdv, hmd]
    generalize m.Actions.getD (q * Y + i) z_Action = a at ha ⊢
    by_cases hn : a.Next = S
    · rw [if_pos (by simpa using hn), if_pos hn, Option.bind_some, w64_id (by omega) (by omega), List.append_nil]; rfl
    · rw [if_neg (by simpa using hn), if_neg hn]
      rcases ha with ha | ha
      · exact absurd ha.1 hn
      · obtain ⟨_, _, _, hm, h5, h6⟩ := ha
        unfold actT
        rcases hm with hm | hm
        · simp only [hm, Option.bind_some, if_true, show ((0 : Int) == 1) = false from rfl, Bool.false_eq_true, if_false]
          rw [if_pos (by simp; omega), Option.bind_some, w64_id (n := (i : Int) + 1) (by omega) (by omega), w64_id (n := 1 + (S : Int)) (by omega) (by omega), w64_id (by omega) (by omega)]; rfl
        · simp only [hm, Option.bind_some, if_true, show ((1 : Int) == 1) = true from rfl, show ¬ ((1 : Int) = 0) from by decide, if_false]
          rw [if_pos (by simp; omega), Option.bind_some, w64_id (n := (i : Int) + 1) (by omega) (by omega), w64_id (by omega) (by omega)]; rfl) (fun k => by
    show ref08_Tiles.l2 (k + 1) (set1 m S Y (q * Y + Y)) Y m q = _
    rw [ref08_Tiles.l2, if_neg (by rw [v.sY]; simp), Nat.succ_mul]) k (by omega)
  exact this
theorem rt_l1 {m : Machine} {S Y : Nat} (v : Val m S Y) {k : Nat} (hk : S + 5 < k) : ref08_Tiles.l1 k (set1 m S Y 0) 0 m = some (set1 m S Y (S * Y)) := by
  have := loop_to (F := fun k i l => ref08_Tiles.l1 k l i m) (S := fun q => set1 m S Y (q * Y)) (n := S) (K := 5) (r := set1 m S Y (S * Y)) (fun k i hk hi => by
    have h1 := v.dS; have h2 := v.dY
    show ref08_Tiles.l1 (k + 1) (set1 m S Y (i * Y)) i m = _
    rw [ref08_Tiles.l1, if_pos (by rw [v.sS]; simpa using hi), rt_l2 v hi (by omega), Option.bind_some, w64_id (by omega) (by omega)]; rfl) (fun k => by
    show ref08_Tiles.l1 (k + 1) (set1 m S Y (S * Y)) S m = _
    rw [ref08_Tiles.l1, if_neg (by rw [v.sS]; simp)]) k (by omega)
  simpa using this
theorem rt_l4 {m : Machine} {S Y : Nat} (v : Val m S Y) {q : Nat} (hq : q < S) {k : Nat} (hk : Y < k) : ref08_Tiles.l4 k (set2 m S Y q) 0 m q = some (set2 m S Y (q + 1)) := by
  have hl0 := set2_len v (n := q) (by omega)
  have := loop_to (F := fun k i l => ref08_Tiles.l4 k l i m q) (S := fun i => set2 m S Y q ++ (List.range i).flatMap (arrL S Y q)) (n := Y) (K := 0) (r := set2 m S Y (q + 1)) (fun k i _ hi => by
    have hd := v.dY; have h1 := v.dS
    show ref08_Tiles.l4 (k + 1) (set2 m S Y q ++ (List.range i).flatMap (arrL S Y q)) i m q = _
    have hl := arr_len S Y q i
    rw [ref08_Tiles.l4, if_pos (by rw [v.sY]; simpa using hi), both_eq v (by omega) (by omega), Option.bind_some, Option.bind_some, if_pos (by rw [List.length_append]; simp only [List.length_cons, List.length_nil]; omega), v.sS, w64_id (n := (i : Int) + 1) (by omega) (by omega), w64_id (n := 1 + (q : Int)) (by omega) (by omega), w64_id (n := 1 + (S : Int)) (by omega) (by omega), w64_id (by omega) (by omega), flat_succ, ← List.append_assoc]
    rfl) (fun k => by
    show ref08_Tiles.l4 (k + 1) (set2 m S Y q ++ (List.range Y).flatMap (arrL S Y q)) Y m q = _
    rw [ref08_Tiles.l4, if_neg (by rw [v.sY]; simp)]
    unfold set2
    rw [flat_succ, List.append_assoc]) k (by omega)
  simpa using this
theorem rt_l3 {m : Machine} {S Y : Nat} (v : Val m S Y) {k : Nat} (hk : S + 5 < k) : ref08_Tiles.l3 k (set2 m S Y 0) 0 m = some (set2 m S Y S) :=
  loop_to (F := fun k i l => ref08_Tiles.l3 k l i m) (S := set2 m S Y) (n := S) (K := 5) (r := set2 m S Y S) (fun k i hk hi => by
    have hd := v.dS
    have hY := v.dY
    show ref08_Tiles.l3 (k + 1) (set2 m S Y i) i m = _
    rw [ref08_Tiles.l3, if_pos (by rw [v.sS]; simpa using hi), rt_l4 v hi (by omega), Option.bind_some, w64_id (by omega) (by omega)]; rfl) (fun k => by
    show ref08_Tiles.l3 (k + 1) (set2 m S Y S) S m = _
    rw [ref08_Tiles.l3, if_neg (by rw [v.sS]; simp)]) k (by omega)
theorem ref_tiles {m : Machine} {S Y : Nat} (v : Val m S Y) {k : Nat} (hk : 30 ≤ k) : ref08_Tiles k m = some (setS m S Y) := by
  have h1 := v.dS; have h2 := v.dY
  unfold ref08_Tiles
  have e0 : set2 m S Y 0 = set1 m S Y (S * Y) := by simp [set2]
  have e1 : set1 m S Y 0 = symL Y Y := by simp [set1]
  rw [rt_l0 v (by omega), Option.bind_some, ← e1, rt_l1 v (by omega), Option.bind_some, ← e0, rt_l3 v (by omega)]
  rfl
theorem tiles_eq {m : Machine} {k : Nat} (hk : 30 ≤ k) : machine_Tiles k m = some (if validB m = true then ((ref08_Tiles k m).getD [], 0) else ([], 1)) := by
  unfold machine_Tiles
  rw [valid1 m k (by omega), Option.bind_some]
  cases hv : validB m
  · rfl
  · obtain ⟨S, Y, v⟩ := val_of hv
    rw [if_neg (by simp), kitOf_eq v hk, ref_tiles v hk]; rfl
/-! equal sets -/
theorem set_loop (a : List Tile) (hl : a.length ≤ 1000000) (k : Nat) (hk : a.length < k) : ref01_SameSet.l0 k 0 a a = some (.inr ()) := by
  have := scan (F := fun k i => ref01_SameSet.l0 k i a a) (xs := a) (g := fun _ _ => (none : Option Bool)) (fun k i hi => by
    show ref01_SameSet.l0 (k + 1) i a a = _
    rw [ref01_SameSet.l0]
    by_cases h : i < a.length
    · have h2 : 0 ≤ (i : Int) ∧ (i : Int) < (a.length : Int) := by omega
      rw [dif_pos h, if_pos (by simpa using h), if_pos h2, if_pos h2, if_neg (by simp), w64_id (by omega) (by omega)]; rfl
    · rw [dif_neg h, if_neg (by simpa using h)]) a.length k 0 (by simp) hk
  have hn : ∀ (l : List Tile) (i : Nat), firstS (fun _ _ => (none : Option Bool)) i l = none := by
    intro l
    induction l with
    | nil => intro i; rfl
    | cons x r ih => intro i; exact ih (i + 1)
  simpa [hn, fin] using this
theorem sameset_refl (a : List Tile) (hl : a.length ≤ 1000000) (k : Nat) (hk : a.length < k) : ref01_SameSet k a a = some true := by
  unfold ref01_SameSet
  rw [if_neg (by simp), set_loop a hl k hk]; rfl
theorem setS_len {m : Machine} {S Y : Nat} (v : Val m S Y) : (setS m S Y).length ≤ 1000 := set2_len v (Nat.le_refl _)
end Gp
set_option linter.unusedVariables false
set_option linter.unusedSimpArgs false
namespace Gp
open Gw Gq
theorem Fit.val {m : Machine} {c : Config} (h : Fit m c) : ∃ S Y, Val m S Y := val_of (by
  have := of_fit h
  unfold fitsB at this
  simp only [Bool.and_eq_true] at this
  exact this.1.1)
/-! ### colours -/
def colS (m : Machine) (c : Config) : List Int := c.Cells.set c.At.toNat (m.Symbols + c.State * m.Symbols + rdD c.Cells c.At 0)
theorem Fit.col {m : Machine} {c : Config} (h : Fit m c) : machine_head m c.State (rdD c.Cells c.At 0) = some (m.Symbols + c.State * m.Symbols + rdD c.Cells c.At 0) := by
  have hi := h.idx
  have hd := h.dim
  have hc := h.cell
  unfold machine_head
  rw [w64_id (n := c.State * m.Symbols) (by omega) (by omega), w64_id (n := m.Symbols + c.State * m.Symbols) (by omega) (by omega), w64_id (by omega) (by omega)]
theorem colours1 {m : Machine} {c : Config} (h : Fit m c) : machine_colours m c = some (colS m c) := by
  have hp := h.place
  unfold machine_colours
  rw [clone_eq (by omega), Option.bind_some, if_pos ⟨hp.2.2.2.2.1, hp.2.2.2.2.2⟩, h.col, Option.bind_some]; rfl
theorem colours2 {m : Machine} {c : Config} (h : Fit m c) : ref08_Colours m c = some (colS m c) := by
  have hp := h.place
  unfold ref08_Colours
  rw [if_pos (by simp; omega), if_pos ⟨hp.2.2.2.2.1, hp.2.2.2.2.2⟩, show ref08_both m c.State (rdD c.Cells c.At 0) = some (m.Symbols + c.State * m.Symbols + rdD c.Cells c.At 0) from h.col, Option.bind_some]
  simp only [List.nil_append]
  rw [if_pos ⟨hp.2.2.2.2.1, hp.2.2.2.2.2⟩]; rfl
theorem Colours1 {m : Machine} {c : Config} {k : Nat} (hk : 201 ≤ k) : machine_Colours k m c = some (if fitsB m c = true then (colS m c, 0) else ([], 1)) := by
  unfold machine_Colours
  rw [fits1 m c k hk, Option.bind_some]
  cases hf : fitsB m c
  · rfl
  · rw [if_neg (by simp), colours1 (fit_of hf)]; rfl
theorem same_list (a : List Int) (hl : a.length ≤ 1000000) (k : Nat) (hk : a.length < k) : ref01_Same k a a = some true := by
  have := scan (F := fun k i => ref01_Same.l0 k i a a) (xs := a) (g := fun _ _ => (none : Option Bool)) (fun k i hi => by
    show ref01_Same.l0 (k + 1) i a a = _
    rw [ref01_Same.l0]
    by_cases h : i < a.length
    · have h2 : 0 ≤ (i : Int) ∧ (i : Int) < (a.length : Int) := by omega
      rw [dif_pos h, if_pos (by simpa using h), if_pos h2, if_pos h2, if_neg (by simp), w64_id (by omega) (by omega)]; rfl
    · rw [dif_neg h, if_neg (by simpa using h)]) a.length k 0 (by simp) hk
  have hn : ∀ (l : List Int) (i : Nat), firstS (fun _ _ => (none : Option Bool)) i l = none := by
    intro l
    induction l with
    | nil => intro i; rfl
    | cons x r ih => intro i; exact ih (i + 1)
  unfold ref01_Same
  rw [if_neg (by simp)]
  simp only [hn, fin, List.drop_zero] at this
  have h0 : ref01_Same.l0 k 0 a a = some (.inr ()) := this
  rw [h0]; rfl
/-! ### reading colours -/
structure RS where
  q : Int
  a : Int
  c : List Int
  h : Nat
def stepI (Y : Int) (x : Int) (i : Nat) (s : RS) : RS := if x < Y then s else ⟨Int.tdiv (x - Y) Y, i, s.c.set i (Int.tmod (x - Y) Y), s.h + 1⟩
def stepR (S Y : Int) (x : Int) (i : Nat) (s : RS) : RS := if Y ≤ x ∧ x < Y + S * Y then ⟨Int.tdiv (x - Y) Y, i, s.c ++ [Int.tmod x Y], s.h + 1⟩ else ⟨s.q, s.a, s.c ++ [x], s.h⟩
def runI (Y : Int) (l : List Int) : Nat → RS
  | 0 => ⟨0, 0, l, 0⟩
  | i + 1 => stepI Y (l.getD i 0) i (runI Y l i)
def runR (S Y : Int) (l : List Int) : Nat → RS
  | 0 => ⟨0, 0, [], 0⟩
  | i + 1 => stepR S Y (l.getD i 0) i (runR S Y l i)
theorem runI_len (Y : Int) (l : List Int) : ∀ i, (runI Y l i).c.length = l.length ∧ (runI Y l i).h ≤ i
  | 0 => ⟨rfl, Nat.le_refl _⟩
  | i + 1 => by
    have := runI_len Y l i
    rw [runI, stepI]
    split
    · exact ⟨this.1, by omega⟩
    · exact ⟨by simp [this.1], by simp; omega⟩
theorem runR_len (S Y : Int) (l : List Int) : ∀ i, (runR S Y l i).c.length = i ∧ (runR S Y l i).h ≤ i
  | 0 => ⟨rfl, Nat.le_refl _⟩
  | i + 1 => by
    have := runR_len S Y l i
    rw [runR, stepR]
    split
    · exact ⟨by simp [this.1], by simp; omega⟩
    · exact ⟨by simp [this.1], by simp; omega⟩
theorem tdiv_in {x Y : Int} (hY : 0 < Y) (hx : Y ≤ x) (hm : x ≤ 9223372036854775807) : w64 (Int.tdiv (w64 (x - Y)) Y) = Int.tdiv (x - Y) Y := by
  have h0 : 0 ≤ x - Y := by omega
  rw [w64_id (n := x - Y) (by omega) (by omega)]
  have h1 := Int.tdiv_nonneg h0 (Int.le_of_lt hY)
  have h2 := Int.tdiv_le_self Y h0
  exact w64_id (by omega) (by omega)
theorem getD_ok {l : List Int} (ho : ∀ x ∈ l, ok64 x) (i : Nat) : ok64 (l.getD i 0) := by
  by_cases h : i < l.length
  · rw [show l.getD i 0 = l[i] from by simp [List.getElem?_eq_getElem h]]; exact ho _ (List.getElem_mem h)
  · rw [show l.getD i 0 = 0 from by simp [List.getElem?_eq_none (Nat.le_of_not_lt h)]]; exact ⟨by decide, by decide⟩
theorem readI {m : Machine} {S Y : Nat} (v : Val m S Y) {l : List Int} (ho : ∀ x ∈ l, ok64 x) (hl : l.length ≤ 1000000) {k : Nat} (hk : l.length < k) :
    machine_Read.l0 k 0 0 l 0 0 m l = some ((runI Y l l.length).q, (runI Y l l.length).a, (runI Y l l.length).c, ((runI Y l l.length).h : Int)) := by
  have := loop_to (F := fun k i (s : RS) => machine_Read.l0 k s.q s.a s.c (s.h : Int) i m l) (S := runI Y l) (n := l.length) (K := 0) (r := ((runI Y l l.length).q, (runI Y l l.length).a, (runI Y l l.length).c, ((runI Y l l.length).h : Int))) (fun k i _ hi => by
    have hY := v.dY
    have hlen := runI_len Y l i
    show machine_Read.l0 (k + 1) (runI Y l i).q (runI Y l i).a (runI Y l i).c ((runI Y l i).h : Int) i m l = machine_Read.l0 k (runI Y l (i + 1)).q (runI Y l (i + 1)).a (runI Y l (i + 1)).c ((runI Y l (i + 1)).h : Int) ((i + 1 : Nat) : Int) m l
    have hx := getD_ok ho i
    rw [machine_Read.l0, if_pos (by simpa using hi), if_pos (by omega), rdD_nat, v.sY, w64_id (n := (i : Int) + 1) (by omega) (by omega)]
    rw [runI, stepI]
    by_cases hc : l.getD i 0 < (Y : Int)
    · rw [if_pos (by simpa using hc), if_pos hc]; rfl
    · rw [if_neg (by simpa using hc), if_neg hc, if_pos (by omega), if_pos (by omega), tdiv_in (by omega) (by omega) hx.2, w64_id (n := l.getD i 0 - (Y : Int)) (by omega) (by have := hx.2; omega), w64_id (n := ((runI Y l i).h : Int) + 1) (by omega) (by omega)]; rfl) (fun k => by
    show machine_Read.l0 (k + 1) (runI Y l l.length).q (runI Y l l.length).a (runI Y l l.length).c ((runI Y l l.length).h : Int) (l.length : Int) m l = _
    rw [machine_Read.l0, if_neg (by simp)]) k (by omega)
  exact this
theorem readR {m : Machine} {S Y : Nat} (v : Val m S Y) {l : List Int} (ho : ∀ x ∈ l, ok64 x) {n : Nat} (hn : n ≤ l.length) (hn2 : n ≤ 201) (hs : n = l.length ∨ n = 201) {k : Nat} (hk : n < k) :
    ref08_Read.l0 k 0 0 [] 0 0 m l = some ((runR S Y l n).q, (runR S Y l n).a, (runR S Y l n).c, ((runR S Y l n).h : Int)) := by
  have hY := v.dY
  have hSS := v.dS
  have h24 := v.le
  have hb : ref08_both m m.States 0 = some ((Y : Int) + S * Y) := by
    have := both_eq v (q := S) (s := 0) (Nat.le_refl _) (by omega)
    rw [v.sS]
    rw [show ((0 : Nat) : Int) = 0 from rfl] at this
    rw [this]; congr 1
  have := loop_to (F := fun k i (s : RS) => ref08_Read.l0 k s.q s.a s.c (s.h : Int) i m l) (S := runR S Y l) (n := n) (K := 0) (r := ((runR S Y l n).q, (runR S Y l n).a, (runR S Y l n).c, ((runR S Y l n).h : Int))) (fun k i _ hi => by
    have hlen := runR_len S Y l i
    show ref08_Read.l0 (k + 1) (runR S Y l i).q (runR S Y l i).a (runR S Y l i).c ((runR S Y l i).h : Int) i m l = ref08_Read.l0 k (runR S Y l (i + 1)).q (runR S Y l (i + 1)).a (runR S Y l (i + 1)).c ((runR S Y l (i + 1)).h : Int) ((i + 1 : Nat) : Int) m l
    have hx := getD_ok ho i
    rw [ref08_Read.l0, if_pos (by simp; omega), if_pos (by omega), rdD_nat, hb, v.sY, w64_id (n := (i : Int) + 1) (by omega) (by omega), w64_id (n := ((runR S Y l i).h : Int) + 1) (by omega) (by omega)]
    rw [runR, stepR]
    by_cases hc : (Y : Int) ≤ l.getD i 0
    · rw [if_pos (by simpa using hc), Option.bind_some, Option.bind_some]
      by_cases hc2 : l.getD i 0 < (Y : Int) + S * Y
      · rw [if_pos (by simpa using hc2), if_pos (by omega), Option.bind_some, if_pos (by simp; omega), if_pos ⟨hc, hc2⟩, tdiv_in (by omega) (by omega) hx.2]; rfl
      · rw [if_neg (by simpa using hc2), Option.bind_some, if_pos (by simp; omega), if_neg (fun h => hc2 h.2)]; rfl
    · rw [if_neg (by simpa using hc), Option.bind_some, if_neg (by simp), Option.bind_some, if_pos (by simp; omega), if_neg (fun h => hc h.1)]; rfl) (fun k => by
    show ref08_Read.l0 (k + 1) (runR S Y l n).q (runR S Y l n).a (runR S Y l n).c ((runR S Y l n).h : Int) (n : Int) m l = _
    rw [ref08_Read.l0, if_neg (by simp; omega)]) k (by omega)
  exact this
end Gp
set_option linter.unusedVariables false
set_option linter.unusedSimpArgs false
namespace Gp
open Gw Gq
theorem tmod_sub {x Y : Int} (hY : 0 < Y) (hx : Y ≤ x) : Int.tmod (x - Y) Y = Int.tmod x Y := by
  rw [Int.tmod_eq_emod_of_nonneg (by omega), Int.tmod_eq_emod_of_nonneg (by omega)]
  exact Int.sub_emod_right x Y
theorem good_same {S Y : Int} (hY : 0 < Y) {l : List Int} (hg : ∀ x ∈ l, x < Y + S * Y) : ∀ i, i ≤ l.length →
    (runI Y l i).q = (runR S Y l i).q ∧ (runI Y l i).a = (runR S Y l i).a ∧ (runI Y l i).h = (runR S Y l i).h ∧ (runI Y l i).c = (runR S Y l i).c ++ l.drop i
  | 0, _ => ⟨rfl, rfl, rfl, rfl⟩
  | i + 1, hi => by
    obtain ⟨h1, h2, h3, h4⟩ := good_same hY hg i (by omega)
    have hlen := runR_len S Y l i
    have hlt : i < l.length := by omega
    have hx : l.getD i 0 = l[i] := by simp [List.getElem?_eq_getElem hlt]
    have hxg : l[i] < Y + S * Y := hg _ (List.getElem_mem hlt)
    have hdrop : l.drop i = l[i] :: l.drop (i + 1) := List.drop_eq_getElem_cons hlt
    rw [runI, runR, stepI, stepR, hx]
    by_cases hc : l[i] < Y
    · rw [if_pos hc, if_neg (by omega)]
      exact ⟨h1, h2, h3, by rw [h4, hdrop]; simp⟩
    · rw [if_neg hc, if_pos ⟨by omega, hxg⟩]
      refine ⟨rfl, rfl, by simp only [h3], ?_⟩
      simp only
      rw [h4, tmod_sub hY (by omega), List.set_append_right _ _ (by omega), hlen.1, Nat.sub_self, hdrop, List.set_cons_zero, List.append_assoc, List.singleton_append]
theorem bad_I {S Y : Int} (hY : 0 < Y) (hS : 0 ≤ S) {l : List Int} : ∀ i, i ≤ l.length → (∃ j, j < i ∧ Y + S * Y ≤ l.getD j 0) → 1 ≤ (runI Y l i).h ∧ ((runI Y l i).h = 1 → S ≤ (runI Y l i).q) := by
  intro i
  induction i with
  | zero => rintro _ ⟨j, hj, _⟩; omega
  | succ i ih =>
    rintro hi ⟨j, hj, hb⟩
    rw [runI, stepI]
    by_cases hji : j < i
    · obtain ⟨h1, h2⟩ := ih (by omega) ⟨j, hji, hb⟩
      split
      · exact ⟨h1, h2⟩
      · exact ⟨by simp, fun h => by simp at h; omega⟩
    · have : j = i := by omega
      subst this
      have hSY : 0 ≤ S * Y := Int.mul_nonneg hS (Int.le_of_lt hY)
      rw [if_neg (by omega)]
      refine ⟨by simp, fun _ => ?_⟩
      show S ≤ Int.tdiv (l.getD j 0 - Y) Y
      rw [Int.tdiv_eq_ediv_of_nonneg (by omega)]
      exact (Int.le_ediv_iff_mul_le hY).2 (by omega)
theorem bad_R {S Y : Int} {l : List Int} : ∀ i, i ≤ l.length → (runR S Y l i).c.length = i ∧ ∀ j, j < i → ¬ (Y ≤ l.getD j 0 ∧ l.getD j 0 < Y + S * Y) → l.getD j 0 ∈ (runR S Y l i).c := by
  intro i
  induction i with
  | zero => exact fun _ => ⟨rfl, fun j hj => by omega⟩
  | succ i ih =>
    intro hi
    obtain ⟨h1, h2⟩ := ih (by omega)
    refine ⟨(runR_len S Y l (i + 1)).1, fun j hj hb => ?_⟩
    rw [runR, stepR]
    by_cases hji : j < i
    · have := h2 j hji hb
      split <;> exact List.mem_append_left _ this
    · have : j = i := by omega
      subst this
      rw [if_neg hb]; exact List.mem_append_right _ (List.mem_singleton.2 rfl)
/-! the two readings -/
def okI : Option Config → Config × Int
  | some c => (c, 0)
  | none => (zC, 6)
def okR : Option Config → Config × Bool
  | some c => (c, true)
  | none => (zC, false)
def rdI (m : Machine) (s : RS) : Option Config := if s.h = 1 ∧ fitsB m ⟨s.q, s.a, s.c⟩ = true then some ⟨s.q, s.a, s.c⟩ else none
theorem read1 {m : Machine} {S Y : Nat} (hv : validB m = true) (v : Val m S Y) {l : List Int} (ho : ∀ x ∈ l, ok64 x) (hl : l.length ≤ 1000000) {k : Nat} (hk : l.length < k) (hk2 : 201 ≤ k) :
    machine_Read k m l = some (okI (rdI m (runI Y l l.length))) := by
  unfold machine_Read
  rw [valid1 m k (by omega), hv, Option.bind_some, if_neg (by simp), clone_eq hl, Option.bind_some, readI v ho hl hk, Option.bind_some, fits1 m _ k hk2]
  unfold rdI
  by_cases hh : (runI Y l l.length).h = 1
  · cases hf : fitsB m ⟨(runI Y l l.length).q, (runI Y l l.length).a, (runI Y l l.length).c⟩ <;> simp [hh, hf, okI, zC]
  · have : ((runI Y l l.length).h : Int) ≠ 1 := by omega
    simp [hh, this, okI, zC]
theorem read2 {m : Machine} {S Y : Nat} (v : Val m S Y) {l : List Int} (ho : ∀ x ∈ l, ok64 x) {n : Nat} (hn : n ≤ l.length) (hn2 : n ≤ 201) (hs : n = l.length ∨ n = 201) {k : Nat} (hk : n < k) (hk2 : 201 ≤ k) :
    ref08_Read k m l = some (okR (rdI m (runR S Y l n))) := by
  unfold ref08_Read
  rw [readR v ho hn hn2 hs hk, Option.bind_some, fits2 m _ k hk2]
  unfold rdI
  by_cases hh : (runR S Y l n).h = 1
  · cases hf : fitsB m ⟨(runR S Y l n).q, (runR S Y l n).a, (runR S Y l n).c⟩ <;> simp [hh, hf, okR, zC]
  · have : ((runR S Y l n).h : Int) ≠ 1 := by omega
    simp [hh, this, okR, zC]
theorem read_agree {m : Machine} (hv : validB m = true) {l : List Int} (ho : ∀ x ∈ l, ok64 x) (hl : l.length ≤ 1000) {k : Nat} (hk : 1002 ≤ k) :
    ∃ o, machine_Read k m l = some (okI o) ∧ ref08_Read k m l = some (okR o) := by
  obtain ⟨S, Y, v⟩ := val_of hv
  have hY := v.dY
  have hS := v.dS
  rw [read1 hv v ho (by omega) (by omega) (by omega)]
  by_cases h200 : l.length ≤ 200
  · rw [read2 v ho (Nat.le_refl _) (by omega) (.inl rfl) (by omega) (by omega)]
    by_cases hg : ∀ x ∈ l, x < (Y : Int) + S * Y
    · obtain ⟨h1, h2, h3, h4⟩ := good_same (S := (S : Int)) (Y := (Y : Int)) (by omega) hg l.length (Nat.le_refl _)
      rw [List.drop_length, List.append_nil] at h4
      refine ⟨_, rfl, ?_⟩
      unfold rdI; rw [h1, h2, h3, h4]
    · obtain ⟨x, hx, hb⟩ : ∃ x, x ∈ l ∧ ¬ x < (Y : Int) + S * Y := by
        refine Classical.byContradiction fun hn => hg fun x hx => Classical.byContradiction fun hb => hn ⟨x, hx, hb⟩
      obtain ⟨j, hj, rfl⟩ := List.mem_iff_getElem.1 hx
      have hgd : l.getD j 0 = l[j] := by simp [List.getElem?_eq_getElem hj]
      have hI := bad_I (S := (S : Int)) (Y := (Y : Int)) (by omega) (by omega) l.length (Nat.le_refl _) ⟨j, hj, by rw [hgd]; omega⟩
      have hR := (bad_R (S := (S : Int)) (Y := (Y : Int)) l.length (Nat.le_refl _)).2 j hj (by rw [hgd]; omega)
      have n1 : rdI m (runI Y l l.length) = none := by
        unfold rdI
        refine if_neg fun hh => ?_
        have hf := (fit_of hh.2).place
        have := hI.2 hh.1
        rw [v.sS] at hf
        have := hf.2.1
        simp only at this
        omega
      have n2 : rdI m (runR S Y l l.length) = none := by
        unfold rdI
        refine if_neg fun hh => ?_
        have hf := (fit_of hh.2).cel _ hR
        rw [v.sY, hgd] at hf
        have := Int.mul_nonneg (show (0 : Int) ≤ S by omega) (show (0 : Int) ≤ Y by omega)
        omega
      exact ⟨none, by rw [n1], by rw [n2]⟩
  · rw [read2 v ho (n := 201) (by omega) (by omega) (.inr rfl) (by omega) (by omega)]
    have n1 : rdI m (runI Y l l.length) = none := by
      unfold rdI
      refine if_neg fun hh => ?_
      have hf := (fit_of hh.2).place
      have := (runI_len Y l l.length).1
      simp only [this] at hf
      omega
    have n2 : rdI m (runR S Y l 201) = none := by
      unfold rdI
      refine if_neg fun hh => ?_
      have hf := (fit_of hh.2).place
      have := (runR_len S Y l 201).1
      simp only [this] at hf
      omega
    exact ⟨none, by rw [n1], by rw [n2]⟩
end Gp
set_option linter.unusedVariables false
set_option linter.unusedSimpArgs false
namespace Gp
open Gw Gq
theorem colS_get {m : Machine} {c : Config} (h : Fit m c) {i : Nat} (hi : i < c.Cells.length) : (colS m c).getD i 0 = if i = c.At.toNat then m.Symbols + c.State * m.Symbols + rdD c.Cells c.At 0 else c.Cells.getD i 0 := by
  unfold colS
  by_cases he : i = c.At.toNat
  · subst he; rw [if_pos rfl]; simp [hi]
  · rw [if_neg he, List.getD_eq_getElem?_getD, List.getElem?_set_ne (Ne.symm he), ← List.getD_eq_getElem?_getD]
theorem back_run {m : Machine} {c : Config} (h : Fit m c) : ∀ i, i ≤ c.Cells.length → runI m.Symbols (colS m c) i = if i ≤ c.At.toNat then ⟨0, 0, colS m c, 0⟩ else ⟨c.State, c.At, c.Cells, 1⟩ := by
  have hp := h.place
  have hcell := h.cell
  have hd := h.dim
  intro i
  induction i with
  | zero => intro _; rw [if_pos (Nat.zero_le _)]; rfl
  | succ i ih =>
    intro hi
    rw [runI, ih (by omega), stepI, colS_get h (by omega)]
    by_cases h1 : i < c.At.toNat
    · rw [if_pos (Nat.le_of_lt h1), if_pos (show i + 1 ≤ c.At.toNat by omega), if_neg (show ¬ i = c.At.toNat by omega)]
      have := h.cel (c.Cells.getD i 0) (by
        rw [show c.Cells.getD i 0 = c.Cells[i] from by simp [List.getElem?_eq_getElem (show i < c.Cells.length by omega)]]
        exact List.getElem_mem _)
      rw [if_pos this.2]
    · by_cases h2 : i = c.At.toNat
      · subst h2
        have hsy : 0 ≤ c.State * m.Symbols := Int.mul_nonneg hp.1 (by omega)
        rw [if_pos (Nat.le_refl _), if_pos rfl, if_neg (show ¬ c.At.toNat + 1 ≤ c.At.toNat by omega), if_neg (by omega)]
        have e : m.Symbols + c.State * m.Symbols + rdD c.Cells c.At 0 - m.Symbols = rdD c.Cells c.At 0 + m.Symbols * c.State := by rw [Int.mul_comm m.Symbols]; omega
        rw [e]
        have hn : 0 ≤ rdD c.Cells c.At 0 + m.Symbols * c.State := by rw [Int.mul_comm m.Symbols]; omega
        rw [Int.tdiv_eq_ediv_of_nonneg hn, Int.tmod_eq_emod_of_nonneg hn, Int.add_mul_ediv_left _ _ (by omega), Int.add_mul_emod_self_left, Int.ediv_eq_zero_of_lt hcell.1 hcell.2, Int.emod_eq_of_lt hcell.1 hcell.2, Int.zero_add]
        have e2 : (colS m c).set c.At.toNat (rdD c.Cells c.At 0) = c.Cells := by
          unfold colS
          rw [List.set_set]
          have hlt : c.At.toNat < c.Cells.length := by omega
          have : rdD c.Cells c.At 0 = c.Cells[c.At.toNat] := by simp [rdD, List.getElem?_eq_getElem hlt]
          rw [this, List.set_getElem_self]
        simp only
        rw [e2, Int.toNat_of_nonneg hp.2.2.2.2.1]
      · rw [if_neg (show ¬ i ≤ c.At.toNat by omega), if_neg h2, if_neg (show ¬ i + 1 ≤ c.At.toNat by omega)]
        have := h.cel (c.Cells.getD i 0) (by
          rw [show c.Cells.getD i 0 = c.Cells[i] from by simp [List.getElem?_eq_getElem (show i < c.Cells.length by omega)]]
          exact List.getElem_mem _)
        rw [if_pos this.2]
theorem colS_ok {m : Machine} {c : Config} (h : Fit m c) : ∀ x ∈ colS m c, ok64 x := by
  intro x hx
  have hi := h.idx
  have hd := h.dim
  have hc := h.cell
  rcases List.mem_or_eq_of_mem_set hx with h1 | h1
  · have := h.cel x h1; exact ⟨by omega, by omega⟩
  · rw [h1]; exact ⟨by omega, by omega⟩
theorem read_back {m : Machine} {c : Config} (h : Fit m c) {k : Nat} (hk : 201 ≤ k) : machine_Read k m (colS m c) = some (c, 0) := by
  have hf := of_fit h
  have hv : validB m = true := by
    unfold fitsB at hf
    simp only [Bool.and_eq_true] at hf
    exact hf.1.1
  obtain ⟨S, Y, v⟩ := val_of hv
  have hp := h.place
  have hl : (colS m c).length = c.Cells.length := by simp [colS]
  rw [read1 hv v (colS_ok h) (by omega) (by omega) hk, hl]
  have := back_run h c.Cells.length (Nat.le_refl _)
  rw [v.sY] at this
  rw [this, if_neg (by omega)]
  unfold rdI
  simp only
  rw [if_pos ⟨trivial, hf⟩]; rfl
theorem law08_MachineTiles_pure : ∀ (p0 : Machine) (p1 : Config) (p2 : List Int), (ok_Machine p0) → (ok_Config p1) → ((∀ x ∈ p2, ok64 x) ∧ p2.length ≤ Go.maxLen) → ∃ k, law08_MachineTiles k p0 p1 p2 = some true := by
  intro m c l _ _ hok
  refine ⟨5000, ?_⟩
  have aw : law08_awake 5000 = some true := awake_ok 4960
  unfold law08_MachineTiles law08_wide
  rw [Option.bind_some]
  split
  · rw [aw]; rfl
  · rename_i hw
    have hc : c.Cells.length ≤ 1000 ∧ l.length ≤ 1000 := by
      simp at hw; omega
    have hz : ref08_SameConfig 5000 zC ⟨0, 0, []⟩ = some true := by rw [same_eq _ _ (by simp [zC]) _ (by simp [zC])]; rfl
    rw [tiles_eq (by omega), Option.bind_some, Colours1 (by omega), Option.bind_some]
    cases hv : validB m
    · -- not valid
      have hf : fitsB m c = false := by unfold fitsB; rw [hv]; rfl
      have hr : machine_Read 5000 m l = some (zC, 1) := by
        unfold machine_Read
        rw [valid1 m 5000 (by omega), hv]; rfl
      rw [hr, Option.bind_some, valid2 m 5000 (by omega), hv, hf, Option.bind_some]
      simp [w64_id, hz, aw]
    · obtain ⟨S, Y, v⟩ := val_of hv
      obtain ⟨o, h1, h2⟩ := read_agree hv hok.1 hc.2 (k := 5000) (by omega)
      have hss := sameset_refl (setS m S Y) (by have := setS_len v; omega) 5000 (by have := setS_len v; omega)
      rw [h1, Option.bind_some, valid2 m 5000 (by omega), hv, Option.bind_some, ref_tiles v (by omega), h2]
      simp only [if_true, Bool.not_true, Bool.false_eq_true, if_false, Option.getD_some, bne_self_eq_false, Option.bind_some, hss]
      have hmid : ((if (!(okR o).2) = true then
            (if ((okI o).2 != 6) = true then some true
              else (ref08_SameConfig 5000 (okI o).1 { State := 0, At := 0, Cells := [] }).bind fun t => some !t).bind
              fun x => if x = true then some (Sum.inl false) else some (Sum.inr ())
          else
            (if ((okI o).2 != 0) = true then some true
              else (ref08_SameConfig 5000 (okI o).1 (okR o).1).bind fun t => some !t).bind
              fun x => if x = true then some (Sum.inl false) else some (Sum.inr ())) : Option (Sum Bool Unit)) = some (.inr ()) := by
        cases o with
        | none => simp [okI, okR, hz]
        | some d =>
          have hd : d.Cells.length ≤ 1000000 ∧ d.Cells.length < 5000 := by
            have : okI (some d) = okI (rdI m (runI Y l l.length)) := by
              have := read1 hv v hok.1 (by omega) (k := 5000) (by omega) (by omega)
              rw [h1] at this; injection this
            unfold rdI at this
            split at this
            · rename_i hh
              have hp := (fit_of hh.2).place
              have e : d = ⟨(runI Y l l.length).q, (runI Y l l.length).a, (runI Y l l.length).c⟩ := (Prod.mk.inj this).1
              rw [e]; omega
            · have := (Prod.mk.inj this).2; cases this
          have : ref08_SameConfig 5000 d d = some true := by rw [same_eq _ _ hd.1 _ hd.2]; simp
          simp [okI, okR, this]
      rw [hmid, Option.bind_some, sumb, fits2 m c 5000 (by omega), Option.bind_some]
      cases hf : fitsB m c
      · simp [aw]
      · have h := fit_of hf
        have hp := h.place
        simp only [if_true, Bool.not_true, Bool.false_eq_true, if_false]
        rw [read_back h (by omega), Option.bind_some, colours2 h]
        have hl : (colS m c).length = c.Cells.length := by simp [colS]
        have h3 := same_list (colS m c) (by omega) 5000 (by omega)
        have h4 : ref08_SameConfig 5000 c c = some true := by rw [same_eq _ _ (by omega) _ (by omega)]; simp
        simp [h3, h4, aw]
end Gp
