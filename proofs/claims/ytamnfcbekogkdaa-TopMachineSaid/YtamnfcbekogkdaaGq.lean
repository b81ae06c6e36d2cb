/- The plain law: what the functions compute answers as the statement says. -/
import Derived.Test.YtamnfcbekogkdaaGp
import Derived.KernelRfl
set_option linter.unusedVariables false
set_option linter.unusedSimpArgs false
namespace Gq
open Go Gw Gp
/-! ### numbers and lists -/
theorem w64_id {n : Int} (h0 : -9223372036854775808 ≤ n) (h1 : n ≤ 9223372036854775807) : w64 n = n := by
  show IntKind.i64.wrap n = n
  have e : IntKind.i64.wrap n = if (true && decide (n % 18446744073709551616 ≥ 9223372036854775808)) = true then n % 18446744073709551616 - 18446744073709551616 else n % 18446744073709551616 := rfl
  rw [e]
  simp only [Bool.true_and, decide_eq_true_eq]
  split <;> omega
theorem rdD_nat {α : Type} (xs : List α) (i : Nat) (d : α) : rdD xs (i : Int) d = xs.getD i d := by simp [rdD]
theorem rdD_get {α : Type} {xs : List α} {i : Nat} (h : i < xs.length) (d : α) : rdD xs (i : Int) d = xs[i] := by
  simp [rdD, List.getD, List.getElem?_eq_getElem h]
def firstS {α β : Type} (g : Nat → α → Option β) : Nat → List α → Option β
  | _, [] => none
  | i, a :: r => match g i a with
    | some b => some b
    | none => firstS g (i + 1) r
def fin {β : Type} : Option β → Sum β Unit
  | some b => .inl b
  | none => .inr ()
theorem scan {α β : Type} {F : Nat → Int → Option (Sum β Unit)} {xs : List α} {g : Nat → α → Option β}
    (hF : ∀ k (i : Nat), i ≤ xs.length → F (k + 1) (i : Int) = if h : i < xs.length then (match g i xs[i] with | some b => some (.inl b) | none => F k ((i + 1 : Nat) : Int)) else some (.inr ())) :
    ∀ (n k i : Nat), i + n = xs.length → n < k → F k (i : Int) = some (fin (firstS g i (xs.drop i)))
  | 0, k, i, hi, hk => by
    obtain ⟨k, rfl⟩ : ∃ m, k = m + 1 := ⟨k - 1, by omega⟩
    have hi : i = xs.length := by omega
    subst hi
    rw [hF k _ (Nat.le_refl _), dif_neg (Nat.lt_irrefl _), List.drop_length]; rfl
  | n + 1, k, i, hi, hk => by
    obtain ⟨k, rfl⟩ : ∃ m, k = m + 1 := ⟨k - 1, by omega⟩
    have hlt : i < xs.length := by omega
    rw [hF k i (by omega), dif_pos hlt, List.drop_eq_getElem_cons hlt, firstS]
    cases hg : g i xs[i] with
    | some b => rfl
    | none => exact scan hF n k (i + 1) (by omega) (by omega)
theorem firstS_none {α β : Type} {g : Nat → α → Option β} {p : α → Bool} (hp : ∀ i a, g i a = none ↔ p a = true) : ∀ (i : Nat) (xs : List α), firstS g i xs = none ↔ xs.all p = true
  | i, [] => by simp [firstS]
  | i, a :: r => by
    rw [firstS, List.all_cons]
    cases hg : g i a with
    | some b =>
      have : ¬ p a = true := fun h => by rw [(hp i a).2 h] at hg; cases hg
      simp [this]
    | none => rw [(hp i a).1 hg]; simpa using firstS_none hp (i + 1) r
end Gq
set_option linter.unusedVariables false
set_option linter.unusedSimpArgs false
namespace Gp
open Gw Gq
/-! ### valid machines -/
def actB (m : Machine) (a : Action) : Bool := if a.Next = m.States then a.Write == 0 && a.Move == 0 else decide (0 ≤ a.Write ∧ a.Write < m.Symbols ∧ 0 ≤ a.Move ∧ a.Move < 2 ∧ 0 ≤ a.Next ∧ a.Next < m.States)
def dimB (m : Machine) : Bool := decide (1 ≤ m.States ∧ m.States ≤ 6 ∧ 2 ≤ m.Symbols ∧ m.Symbols ≤ 4 ∧ (m.Actions.length : Int) = m.States * m.Symbols)
def validB (m : Machine) : Bool := dimB m && m.Actions.all (actB m)
theorem action_eq (m : Machine) (a : Action) : machine_action m a = some (actB m a) := by
  unfold machine_action actB
  by_cases h : a.Next = m.States
  · simp [h]
  · simp [h, Bool.and_assoc, ge_iff_le]
theorem idx_valid (m : Machine) (xs : List Action) (hl : xs.length ≤ 1000000) (k : Nat) (hk : xs.length < k) :
    slices_IndexFunc_api_Action_api_Action_with_machine_Valid_1.l0 k 0 xs m = some (fin (firstS (fun i a => if actB m a = true then none else some (i : Int)) 0 xs)) := by
  have := scan (F := fun k i => slices_IndexFunc_api_Action_api_Action_with_machine_Valid_1.l0 k i xs m) (xs := xs) (g := fun i a => if actB m a = true then none else some (i : Int)) (fun k i hi => by
    show slices_IndexFunc_api_Action_api_Action_with_machine_Valid_1.l0 (k + 1) i xs m = _
    rw [slices_IndexFunc_api_Action_api_Action_with_machine_Valid_1.l0]
    by_cases h : i < xs.length
    · have h' : (i : Int) < (xs.length : Int) := by omega
      have h2 : 0 ≤ (i : Int) ∧ (i : Int) < (xs.length : Int) := by omega
      rw [dif_pos h, if_pos (by simpa using h'), if_pos h2, rdD_get h, machine_Valid_1, action_eq, w64_id (by omega) (by omega)]
      cases hb : actB m xs[i] <;> simp
    · have h' : ¬ (i : Int) < (xs.length : Int) := by omega
      rw [dif_neg h, if_neg (by simpa using h')]) xs.length k 0 (by simp) hk
  simpa using this
theorem firstS_ge {α : Type} {p : α → Bool} : ∀ (xs : List α) (i : Nat), (match firstS (fun i a => if p a = true then none else some (i : Int)) i xs with | some j => decide (j ≥ 0) | none => false) = !xs.all p
  | [], i => rfl
  | a :: r, i => by
    rw [firstS]
    cases h : p a
    · simp [h]
    · simpa [h] using firstS_ge r (i + 1)
theorem contains_valid (m : Machine) (xs : List Action) (hl : xs.length ≤ 1000000) (k : Nat) (hk : xs.length < k) :
    slices_ContainsFunc_api_Action_api_Action_with_machine_Valid_1 k xs m = some (!xs.all (actB m)) := by
  unfold slices_ContainsFunc_api_Action_api_Action_with_machine_Valid_1 slices_IndexFunc_api_Action_api_Action_with_machine_Valid_1
  rw [idx_valid m xs hl k hk]
  have := firstS_ge (p := actB m) xs 0
  rw [← this]
  cases firstS (fun i a => if actB m a = true then none else some (i : Int)) 0 xs <;> simp [fin, sumb]
theorem dim_w64 {m : Machine} (h : 1 ≤ m.States ∧ m.States ≤ 6 ∧ 2 ≤ m.Symbols ∧ m.Symbols ≤ 4) : w64 (m.States * m.Symbols) = m.States * m.Symbols ∧ m.States * m.Symbols ≤ 24 ∧ 2 ≤ m.States * m.Symbols := by
  obtain ⟨h1, h2, h3, h4⟩ := h
  have : m.States = 1 ∨ m.States = 2 ∨ m.States = 3 ∨ m.States = 4 ∨ m.States = 5 ∨ m.States = 6 := by omega
  have h5 : m.States * m.Symbols ≤ 24 ∧ 2 ≤ m.States * m.Symbols := by rcases this with h | h | h | h | h | h <;> rw [h] <;> omega
  exact ⟨w64_id (by omega) (by omega), h5⟩
theorem valid1 (m : Machine) (k : Nat) (hk : 25 ≤ k) : machine_Valid k m = some (validB m) := by
  unfold machine_Valid validB dimB
  by_cases h : 1 ≤ m.States ∧ m.States ≤ 6 ∧ 2 ≤ m.Symbols ∧ m.Symbols ≤ 4
  · obtain ⟨hw, h24, _⟩ := dim_w64 h
    rw [hw]
    by_cases hl : (m.Actions.length : Int) = m.States * m.Symbols
    · rw [if_pos (by simp [h, hl]), contains_valid m m.Actions (by omega) k (by omega)]
      simp [h, hl]
    · rw [if_neg (by simp [hl])]
      simp [hl]
  · rw [if_neg (by simp; intro a b c d; omega)]
    have : ¬ (1 ≤ m.States ∧ m.States ≤ 6 ∧ 2 ≤ m.Symbols ∧ m.Symbols ≤ 4 ∧ (m.Actions.length : Int) = m.States * m.Symbols) := fun hh => h ⟨hh.1, hh.2.1, hh.2.2.1, hh.2.2.2.1⟩
    simp [this]
/-! the reference -/
def actBad (m : Machine) (a : Action) : Option Bool := if actB m a = true then none else some false
theorem firstS_const {α : Type} {p : α → Bool} : ∀ (xs : List α) (i : Nat), firstS (fun _ a => if p a = true then none else some false) i xs = if xs.all p = true then none else some false
  | [], i => rfl
  | a :: r, i => by
    rw [firstS]
    cases h : p a
    · simp [h]
    · simp only [h, if_true, List.all_cons, Bool.true_and]; exact firstS_const r (i + 1)
end Gp
set_option linter.unusedVariables false
set_option linter.unusedSimpArgs false
namespace Gp
open Gw Gq
/-! ### configurations -/
def celB (m : Machine) (s : Int) : Bool := decide (0 ≤ s ∧ s < m.Symbols)
def placeB (m : Machine) (c : Config) : Bool := decide (0 ≤ c.State ∧ c.State < m.States ∧ 1 ≤ (c.Cells.length : Int) ∧ (c.Cells.length : Int) ≤ 200 ∧ 0 ≤ c.At ∧ c.At < (c.Cells.length : Int))
def fitsB (m : Machine) (c : Config) : Bool := validB m && placeB m c && c.Cells.all (celB m)
theorem idx_fits (m : Machine) (xs : List Int) (hl : xs.length ≤ 1000000) (k : Nat) (hk : xs.length < k) :
    slices_IndexFunc_int_int_with_machine_Fits_1.l0 k 0 xs m = some (fin (firstS (fun i a => if celB m a = true then none else some (i : Int)) 0 xs)) := by
  have := scan (F := fun k i => slices_IndexFunc_int_int_with_machine_Fits_1.l0 k i xs m) (xs := xs) (g := fun i a => if celB m a = true then none else some (i : Int)) (fun k i hi => by
    show slices_IndexFunc_int_int_with_machine_Fits_1.l0 (k + 1) i xs m = _
    rw [slices_IndexFunc_int_int_with_machine_Fits_1.l0]
    by_cases h : i < xs.length
    · have h' : (i : Int) < (xs.length : Int) := by omega
      have h2 : 0 ≤ (i : Int) ∧ (i : Int) < (xs.length : Int) := by omega
      rw [dif_pos h, if_pos (by simpa using h'), if_pos h2, rdD_get h, machine_Fits_1, w64_id (by omega) (by omega)]
      by_cases hb : 0 ≤ xs[i] ∧ xs[i] < m.Symbols
      · have h3 : ¬ (xs[i] < 0 ∨ m.Symbols ≤ xs[i]) := by omega
        simp [celB, hb]
        intro hh; exact absurd hh h3
      · have h3 : (xs[i] < 0 ∨ m.Symbols ≤ xs[i]) := by omega
        simp [celB, hb, h3]
    · have h' : ¬ (i : Int) < (xs.length : Int) := by omega
      rw [dif_neg h, if_neg (by simpa using h')]) xs.length k 0 (by simp) hk
  simpa using this
theorem contains_fits (m : Machine) (xs : List Int) (hl : xs.length ≤ 1000000) (k : Nat) (hk : xs.length < k) :
    slices_ContainsFunc_int_int_with_machine_Fits_1 k xs m = some (!xs.all (celB m)) := by
  unfold slices_ContainsFunc_int_int_with_machine_Fits_1 slices_IndexFunc_int_int_with_machine_Fits_1
  rw [idx_fits m xs hl k hk]
  have := firstS_ge (p := celB m) xs 0
  rw [← this]
  cases firstS (fun i a => if celB m a = true then none else some (i : Int)) 0 xs <;> simp [fin, sumb]
theorem fits1 (m : Machine) (c : Config) (k : Nat) (hk : 201 ≤ k) : machine_Fits k m c = some (fitsB m c) := by
  unfold machine_Fits
  rw [valid1 m k (by omega)]
  unfold fitsB placeB
  cases hv : validB m
  · simp
  · by_cases h : 0 ≤ c.State ∧ c.State < m.States ∧ 1 ≤ (c.Cells.length : Int) ∧ (c.Cells.length : Int) ≤ 200 ∧ 0 ≤ c.At ∧ c.At < (c.Cells.length : Int)
    · rw [Option.bind_some, if_pos (by simp; omega), contains_fits m c.Cells (by omega) k (by omega)]
      simp [h]
    · rw [Option.bind_some, if_neg (by simp; omega)]
      simp [h]
/-! equality -/
theorem firstS_eq (b : List Int) : ∀ (a : List Int) (i : Nat), i + a.length = b.length → firstS (fun i x => if x = b.getD i 0 then none else some false) i a = if a = b.drop i then none else some false
  | [], i, h => by
    have : b.drop i = [] := List.drop_eq_nil_of_le (by simp at h; omega)
    simp [firstS, this]
  | x :: r, i, h => by
    have hi : i < b.length := by simp at h; omega
    rw [firstS, List.drop_eq_getElem_cons hi, firstS_eq b r (i + 1) (by simp at h; omega)]
    have hg : b.getD i 0 = b[i] := by simp [List.getD, List.getElem?_eq_getElem hi]
    rw [hg]
    by_cases hx : x = b[i]
    · subst hx
      rw [if_pos rfl]
      by_cases hr : r = b.drop (i + 1)
      · rw [if_pos hr, if_pos (by rw [hr])]
      · rw [if_neg hr, if_neg (fun h => hr (List.cons.inj h).2)]
    · rw [if_neg hx, if_neg (fun h => hx (List.cons.inj h).1)]
end Gp
set_option linter.unusedVariables false
set_option linter.unusedSimpArgs false
namespace Gp
open Gw Gq
/-! ### steps -/
def zC : Config := ⟨0, 0, []⟩
def actOf (m : Machine) (c : Config) : Action := rdD m.Actions (c.State * m.Symbols + rdD c.Cells c.At 0) z_Action
def toOf (m : Machine) (c : Config) : Int := c.At + 2 * (actOf m c).Move - 1
def nextC (m : Machine) (c : Config) : Config := ⟨(actOf m c).Next, toOf m c, c.Cells.set c.At.toNat (actOf m c).Write⟩
def noStep (m : Machine) (c : Config) : Int := if (actOf m c).Next = m.States then 5 else if toOf m c < 0 ∨ (c.Cells.length : Int) ≤ toOf m c then 6 else 0
structure Fit (m : Machine) (c : Config) : Prop where
  dim : 1 ≤ m.States ∧ m.States ≤ 6 ∧ 2 ≤ m.Symbols ∧ m.Symbols ≤ 4
  len : (m.Actions.length : Int) = m.States * m.Symbols
  act : ∀ a ∈ m.Actions, actB m a = true
  place : 0 ≤ c.State ∧ c.State < m.States ∧ 1 ≤ (c.Cells.length : Int) ∧ (c.Cells.length : Int) ≤ 200 ∧ 0 ≤ c.At ∧ c.At < (c.Cells.length : Int)
  cel : ∀ s ∈ c.Cells, 0 ≤ s ∧ s < m.Symbols
theorem fit_of {m : Machine} {c : Config} (h : fitsB m c = true) : Fit m c := by
  unfold fitsB validB dimB placeB at h
  simp only [Bool.and_eq_true, decide_eq_true_eq, List.all_eq_true] at h
  obtain ⟨⟨⟨h1, h2⟩, h3⟩, h4⟩ := h
  exact ⟨⟨h1.1, h1.2.1, h1.2.2.1, h1.2.2.2.1⟩, h1.2.2.2.2, h2, h3, fun s hs => by have := h4 s hs; simpa [celB] using this⟩
theorem of_fit {m : Machine} {c : Config} (h : Fit m c) : fitsB m c = true := by
  unfold fitsB validB dimB placeB
  simp only [Bool.and_eq_true, decide_eq_true_eq, List.all_eq_true]
  exact ⟨⟨⟨⟨h.dim.1, h.dim.2.1, h.dim.2.2.1, h.dim.2.2.2, h.len⟩, h.act⟩, h.place⟩, fun s hs => by have := h.cel s hs; simpa [celB] using this⟩
theorem rdD_mem {α : Type} {xs : List α} {i : Int} (h0 : 0 ≤ i) (h1 : i < (xs.length : Int)) (d : α) : rdD xs i d ∈ xs := by
  have : i.toNat < xs.length := by omega
  unfold rdD
  rw [List.getD_eq_getElem?_getD, List.getElem?_eq_getElem this]
  simp
theorem Fit.cell {m : Machine} {c : Config} (h : Fit m c) : 0 ≤ rdD c.Cells c.At 0 ∧ rdD c.Cells c.At 0 < m.Symbols := h.cel _ (rdD_mem h.place.2.2.2.2.1 h.place.2.2.2.2.2 0)
theorem Fit.state {m : Machine} {c : Config} (h : Fit m c) {s : Int} (hs : 0 ≤ s ∧ s < m.Symbols) {q : Int} (hq : 0 ≤ q ∧ q < m.States) : 0 ≤ q * m.Symbols + s ∧ q * m.Symbols + s < (m.Actions.length : Int) ∧ q * m.Symbols + s < 24 ∧ 0 ≤ q * m.Symbols ∧ q * m.Symbols < 24 := by
  have hd := h.dim
  have hl := h.len
  have hp := dim_w64 hd
  have hm : (q + 1) * m.Symbols ≤ m.States * m.Symbols := Int.mul_le_mul_of_nonneg_right (by omega) (by omega)
  have h0 : 0 ≤ q * m.Symbols := Int.mul_nonneg hq.1 (by omega)
  rw [Int.add_mul, Int.one_mul] at hm
  refine ⟨by omega, by rw [hl]; omega, by omega, h0, by omega⟩
theorem Fit.idx {m : Machine} {c : Config} (h : Fit m c) : 0 ≤ c.State * m.Symbols + rdD c.Cells c.At 0 ∧ c.State * m.Symbols + rdD c.Cells c.At 0 < (m.Actions.length : Int) ∧ c.State * m.Symbols + rdD c.Cells c.At 0 < 24 ∧ 0 ≤ c.State * m.Symbols ∧ c.State * m.Symbols < 24 :=
  h.state h.cell ⟨h.place.1, h.place.2.1⟩
theorem Fit.widx {m : Machine} {c : Config} (h : Fit m c) : w64 (w64 (c.State * m.Symbols) + rdD c.Cells c.At 0) = c.State * m.Symbols + rdD c.Cells c.At 0 := by
  have hi := h.idx
  rw [w64_id (n := c.State * m.Symbols) (by omega) (by omega), w64_id (by omega) (by omega)]
theorem Fit.actOf {m : Machine} {c : Config} (h : Fit m c) : actB m (actOf m c) = true := h.act _ (rdD_mem h.idx.1 h.idx.2.1 _)
theorem actB_cases {m : Machine} {a : Action} (h : actB m a = true) : (a.Next = m.States ∧ a.Write = 0 ∧ a.Move = 0) ∨ (a.Next ≠ m.States ∧ 0 ≤ a.Write ∧ a.Write < m.Symbols ∧ (a.Move = 0 ∨ a.Move = 1) ∧ 0 ≤ a.Next ∧ a.Next < m.States) := by
  unfold actB at h
  split at h
  · rename_i hn
    simp only [Bool.and_eq_true, beq_iff_eq] at h
    exact .inl ⟨hn, h.1, h.2⟩
  · rename_i hn
    simp only [decide_eq_true_eq] at h
    exact .inr ⟨hn, h.1, h.2.1, by omega, h.2.2.2.2.1, h.2.2.2.2.2⟩
theorem Fit.move {m : Machine} {c : Config} (h : Fit m c) : (Gp.actOf m c).Move = 0 ∨ (Gp.actOf m c).Move = 1 := by
  rcases actB_cases h.actOf with h | h
  · exact .inl h.2.2
  · exact h.2.2.2.1
theorem Fit.next {m : Machine} {c : Config} (h : Fit m c) (hs : noStep m c = 0) : Fit m (nextC m c) := by
  unfold noStep at hs
  split at hs
  · cases hs
  · rename_i hn
    split at hs
    · cases hs
    · rename_i ht
      rcases actB_cases h.actOf with ha | ha
      · exact absurd ha.1 hn
      · refine ⟨h.dim, h.len, h.act, ?_, fun s hs => ?_⟩
        · have := h.place
          simp only [nextC, List.length_set]
          exact ⟨ha.2.2.2.2.1, ha.2.2.2.2.2, by omega, by omega, by omega, by omega⟩
        · rcases List.mem_or_eq_of_mem_set hs with h1 | h1
          · exact h.cel s h1
          · rw [h1]; exact ⟨ha.2.1, ha.2.2.1⟩
theorem does_eq {m : Machine} {c : Config} (h : Fit m c) : machine_runner_does ⟨m, c⟩ = some (c.State * m.Symbols + rdD c.Cells c.At 0) := by
  unfold machine_runner_does
  rw [if_pos ⟨h.place.2.2.2.2.1, h.place.2.2.2.2.2⟩, h.widx]
theorem Fit.wto {m : Machine} {c : Config} (h : Fit m c) : w64 (w64 (c.At + w64 (2 * (Gp.actOf m c).Move)) - 1) = toOf m c := by
  have hm := h.move
  have hp := h.place
  rw [w64_id (n := 2 * (Gp.actOf m c).Move) (by omega) (by omega), w64_id (n := c.At + 2 * (Gp.actOf m c).Move) (by omega) (by omega), w64_id (by omega) (by omega)]; rfl
theorem rstep_eq {m : Machine} {c : Config} (h : Fit m c) : machine_runner_step ⟨m, c⟩ = some (noStep m c, ⟨m, if noStep m c = 0 then nextC m c else c⟩) := by
  unfold machine_runner_step
  have hi := h.idx
  rw [does_eq h, Option.bind_some, if_pos ⟨hi.1, hi.2.1⟩, Option.bind_some]
  show (if ((actOf m c).Next == m.States) = true then _ else _) = _
  simp only
  rw [show (rdD m.Actions (c.State * m.Symbols + rdD c.Cells c.At 0) z_Action) = actOf m c from rfl, h.wto]
  unfold noStep
  by_cases hn : (actOf m c).Next = m.States
  · simp [hn]
  · rw [if_neg (by simpa using hn)]
    by_cases ht : toOf m c < 0 ∨ (c.Cells.length : Int) ≤ toOf m c
    · rw [if_pos (by simpa [ge_iff_le] using ht)]; simp [hn, ht]
    · rw [if_neg (by simpa [ge_iff_le] using ht), if_pos ⟨h.place.2.2.2.2.1, h.place.2.2.2.2.2⟩]; simp [hn, ht, nextC]
theorem clone_eq {xs : List Int} (h : xs.length ≤ 1000000) : slices_Clone_int_int xs = some xs := by
  unfold slices_Clone_int_int slices_Clone_int_int_some
  rw [if_pos (by simp; omega)]; rfl
theorem begin_eq {m : Machine} {c : Config} (h : c.Cells.length ≤ 1000000) : machine_begin m c = some ⟨m, c⟩ := by
  unfold machine_begin
  rw [clone_eq h]; rfl
def stepS (m : Machine) (c : Config) : Config × Int := if noStep m c = 0 then (nextC m c, 0) else (zC, noStep m c)
/-! ### runs -/
def runS (m : Machine) : Nat → Config → Config × Nat
  | 0, c => (c, 0)
  | n + 1, c => if noStep m c = 0 then ((runS m n (nextC m c)).1, (runS m n (nextC m c)).2 + 1) else (c, 0)
theorem run_fit {m : Machine} : ∀ (n : Nat) {c : Config}, Fit m c → Fit m (runS m n c).1
  | 0, c, h => h
  | n + 1, c, h => by
    rw [runS]
    split
    · rename_i hn; exact run_fit n (h.next hn)
    · exact h
theorem run_le {m : Machine} : ∀ (n : Nat) (c : Config), (runS m n c).2 ≤ n
  | 0, c => Nat.le_refl _
  | n + 1, c => by
    rw [runS]
    split
    · have := run_le (m := m) n (nextC m c); simp only; omega
    · simp
end Gp
set_option linter.unusedVariables false
set_option linter.unusedSimpArgs false
namespace Gp
open Gw Gq
theorem stepS_len {m : Machine} {c : Config} (h : Fit m c) : (stepS m c).1.Cells.length ≤ 200 := by
  unfold stepS
  have := h.place
  split
  · simp [nextC]; omega
  · simp [zC]
end Gp
set_option linter.unusedVariables false
set_option linter.unusedSimpArgs false
namespace Gq
theorem loop_to {σ τ : Type} {F : Nat → Int → σ → Option τ} {S : Nat → σ} {n K : Nat} {r : τ} (hs : ∀ k i, K ≤ k → i < n → F (k + 1) (i : Int) (S i) = F k ((i + 1 : Nat) : Int) (S (i + 1))) (he : ∀ k, F (k + 1) (n : Int) (S n) = some r) :
    ∀ k, n + K < k → F k 0 (S 0) = some r := by
  have key : ∀ d i k, i + d = n → d + K < k → F k (i : Int) (S i) = some r := by
    intro d
    induction d with
    | zero =>
      intro i k hi hk
      obtain ⟨k, rfl⟩ : ∃ m, k = m + 1 := ⟨k - 1, by omega⟩
      have : i = n := by omega
      subst this; exact he k
    | succ d ih =>
      intro i k hi hk
      obtain ⟨k, rfl⟩ : ∃ m, k = m + 1 := ⟨k - 1, by omega⟩
      rw [hs k i (by omega) (by omega)]
      exact ih (i + 1) k (by omega) (by omega)
  intro k hk
  exact key n 0 k (by omega) hk
theorem range_mul {α : Type} (f : Nat → List α) (Y : Nat) : ∀ S : Nat, (List.range (S * Y)).flatMap f = (List.range S).flatMap fun q => (List.range Y).flatMap fun s => f (q * Y + s)
  | 0 => by simp
  | S + 1 => by
    rw [Nat.add_mul, Nat.one_mul, List.range_add, List.flatMap_append, range_mul f Y S, List.range_succ, List.flatMap_append, List.flatMap_map]
    simp
theorem flat_succ {α : Type} (f : Nat → List α) (n : Nat) : (List.range (n + 1)).flatMap f = (List.range n).flatMap f ++ f n := by
  rw [List.range_succ, List.flatMap_append]; simp
theorem map_succ {α : Type} (f : Nat → α) (n : Nat) : (List.range (n + 1)).map f = (List.range n).map f ++ [f n] := by
  rw [List.range_succ, List.map_append]; simp
theorem flat_len1 {α : Type} {f : Nat → List α} {b : Nat} (hf : ∀ i, (f i).length ≤ b) : ∀ n, ((List.range n).flatMap f).length ≤ n * b
  | 0 => by simp
  | n + 1 => by
    rw [flat_succ, List.length_append, Nat.add_mul, Nat.one_mul]
    have := flat_len1 hf n
    have := hf n
    omega
end Gq
namespace Gp
open Gw Gq
/-! ### the tiles of a machine -/
structure Val (m : Machine) (S Y : Nat) : Prop where
  sS : m.States = S
  sY : m.Symbols = Y
  dS : 1 ≤ S ∧ S ≤ 6
  dY : 2 ≤ Y ∧ Y ≤ 4
  len : m.Actions.length = S * Y
  act : ∀ a ∈ m.Actions, actB m a = true
theorem val_of {m : Machine} (h : validB m = true) : ∃ S Y, Val m S Y := by
  unfold validB dimB at h
  simp only [Bool.and_eq_true, decide_eq_true_eq, List.all_eq_true] at h
  obtain ⟨⟨h1, h2, h3, h4, h5⟩, h6⟩ := h
  refine ⟨m.States.toNat, m.Symbols.toNat, by omega, by omega, by omega, by omega, ?_, h6⟩
  have : ((m.States.toNat * m.Symbols.toNat : Nat) : Int) = m.States * m.Symbols := by rw [Int.natCast_mul, Int.toNat_of_nonneg (by omega), Int.toNat_of_nonneg (by omega)]
  omega
theorem Val.le {m : Machine} {S Y : Nat} (v : Val m S Y) : S * Y ≤ 24 := by
  have := Nat.mul_le_mul v.dS.2 v.dY.2; omega
theorem Val.get {m : Machine} {S Y : Nat} (v : Val m S Y) {i : Nat} (hi : i < S * Y) : actB m (m.Actions.getD i z_Action) = true := by
  have h : i < m.Actions.length := by rw [v.len]; exact hi
  refine v.act _ ?_
  simp [List.getElem?_eq_getElem h]
def hd (Y q s : Nat) : Int := ((Y + q * Y + s : Nat) : Int)
theorem head_eq {m : Machine} {S Y : Nat} (v : Val m S Y) {q s : Nat} (hq : q ≤ S) (hs : s ≤ Y) : machine_head m q s = some (hd Y q s) := by
  have h1 := v.dS; have h2 := v.dY
  have : q * Y ≤ 24 := by have := Nat.mul_le_mul (show q ≤ 6 by omega) h2.2; omega
  unfold machine_head hd
  rw [v.sY, w64_id (n := (q : Int) * Y) (by rw [← Int.natCast_mul]; omega) (by rw [← Int.natCast_mul]; omega), ← Int.natCast_mul, w64_id (n := (Y : Int) + (q * Y : Nat)) (by omega) (by omega), w64_id (by omega) (by omega)]
  congr 1
def symT (s : Nat) : Tile := ⟨s, 0, s, 0⟩
def actT (S Y q s : Nat) (a : Action) : Tile := if a.Move = 0 then ⟨a.Write, 0, hd Y q s, 1 + S + a.Next⟩ else ⟨a.Write, 1 + a.Next, hd Y q s, 0⟩
def actL (m : Machine) (S Y i : Nat) : List Tile := if (m.Actions.getD i z_Action).Next = S then [] else [actT S Y (i / Y) (i % Y) (m.Actions.getD i z_Action)]
def arrL (S Y q s : Nat) : List Tile := [⟨hd Y q s, 0, s, 1 + q⟩, ⟨hd Y q s, 1 + S + q, s, 0⟩]
def symL (Y n : Nat) : List Tile := (List.range n).map symT
def set1 (m : Machine) (S Y n : Nat) : List Tile := symL Y Y ++ (List.range n).flatMap (actL m S Y)
def setS (m : Machine) (S Y : Nat) : List Tile := set1 m S Y (S * Y) ++ (List.range S).flatMap fun q => (List.range Y).flatMap (arrL S Y q)
def doesAt (m : Machine) (S Y i : Nat) : Int := if (m.Actions.getD i z_Action).Next = S then -1 else ((set1 m S Y i).length : Int)
def doesS (m : Machine) (S Y n : Nat) : List Int := (List.range n).map (doesAt m S Y)
theorem actL_len (m : Machine) (S Y i : Nat) : (actL m S Y i).length ≤ 1 := by unfold actL; split <;> simp
theorem set1_len (m : Machine) {S Y : Nat} (hY : Y ≤ 4) (n : Nat) : (set1 m S Y n).length ≤ 4 + n := by
  unfold set1 symL
  have := flat_len1 (actL_len m S Y) n
  rw [List.length_append, List.length_map, List.length_range]; omega
theorem kit_l0 {m : Machine} {S Y : Nat} (v : Val m S Y) {k : Nat} (hk : Y < k) : machine_kitOf.l0 k [] 0 m = some (symL Y Y) := by
  have := loop_to (F := fun k i l => machine_kitOf.l0 k l i m) (S := symL Y) (n := Y) (K := 0) (r := symL Y Y) (fun k i _ hi => by
    have hd := v.dY
    show machine_kitOf.l0 (k + 1) (symL Y i) i m = _
    rw [machine_kitOf.l0, if_pos (by rw [v.sY]; simpa using hi), if_pos (by simp [symL]; omega), w64_id (by omega) (by omega)]
    unfold symL
    rw [map_succ]; rfl) (fun k => by
    show machine_kitOf.l0 (k + 1) (symL Y Y) Y m = _
    rw [machine_kitOf.l0, if_neg (by rw [v.sY]; simp)]) k (by omega)
  exact this
theorem acts_eq {m : Machine} {S Y : Nat} (v : Val m S Y) {i : Nat} (hi : i < S * Y) (st : List Tile) (ds : List Int) (b : Int) (hn : (m.Actions.getD i z_Action).Next ≠ S) :
    machine_kit_acts ⟨m, st, ds, b⟩ ((i / Y : Nat) : Int) ((i % Y : Nat) : Int) (m.Actions.getD i z_Action) = some (actT S Y (i / Y) (i % Y) (m.Actions.getD i z_Action)) := by
  have h1 := v.dS; have h2 := v.dY
  have hq : i / Y < S := Nat.div_lt_of_lt_mul (by rw [Nat.mul_comm]; exact hi)
  have hs : i % Y < Y := Nat.mod_lt _ (by omega)
  have ha := actB_cases (v.get hi)
  rw [v.sS, v.sY] at ha
  generalize m.Actions.getD i z_Action = a at ha hn ⊢
  rcases ha with ha | ha
  · exact absurd ha.1 hn
  · obtain ⟨_, _, _, hm, h5, h6⟩ := ha
    unfold machine_kit_acts machine_kit_signal actT
    rw [show (Kit.mk m st ds b).m = m from rfl, head_eq v (by omega) (by omega), v.sS]
    rcases hm with hm | hm
    · simp only [hm, Option.bind_some, beq_self_eq_true, if_true]
      rw [if_neg (by simp), w64_id (n := 1 + (S : Int)) (by omega) (by omega), w64_id (by omega) (by omega)]; rfl
    · simp only [hm, Option.bind_some, beq_self_eq_true, if_true]
      rw [w64_id (by omega) (by omega)]; rfl
theorem kit_l1 {m : Machine} {S Y : Nat} (v : Val m S Y) {k : Nat} (hk : S * Y < k) : machine_kitOf.l1 k (symL Y Y) [] 0 m = some (set1 m S Y (S * Y), doesS m S Y (S * Y)) := by
  have := loop_to (F := fun k i (l : List Tile × List Int) => machine_kitOf.l1 k l.1 l.2 i m) (S := fun i => (set1 m S Y i, doesS m S Y i)) (n := S * Y) (K := 0) (r := (set1 m S Y (S * Y), doesS m S Y (S * Y))) (fun k i _ hi => by
    have h24 := v.le
    have hdY := v.dY
    show machine_kitOf.l1 (k + 1) (set1 m S Y i) (doesS m S Y i) i m = machine_kitOf.l1 k (set1 m S Y (i + 1)) (doesS m S Y (i + 1)) ((i + 1 : Nat) : Int) m
    have hl1 := set1_len m (S := S) hdY.2 i
    have hl2 : (doesS m S Y i).length = i := by simp [doesS]
    rw [machine_kitOf.l1, if_pos (by rw [v.len, decide_eq_true_eq]; omega), if_pos (by rw [v.len]; omega), rdD_nat, v.sS, v.sY]
    by_cases hn : (m.Actions.getD i z_Action).Next = S
    · rw [if_pos (by simpa using hn), if_pos (by simp [hl2]; omega), Option.bind_some, w64_id (by omega) (by omega)]
      have e1 : set1 m S Y (i + 1) = set1 m S Y i := by unfold set1; rw [flat_succ, actL, if_pos hn, List.append_nil]
      have e2 : doesS m S Y (i + 1) = doesS m S Y i ++ [-1] := by unfold doesS; rw [map_succ, doesAt, if_pos hn]
      rw [e1, e2]; rfl
    · have hdiv : w64 (Int.tdiv (i : Int) (Y : Int)) = ((i / Y : Nat) : Int) := by
        have : Int.tdiv (i : Int) (Y : Int) = ((i / Y : Nat) : Int) := rfl
        have h3 : ((i / Y : Nat) : Int) ≤ i := by exact_mod_cast Nat.div_le_self _ _
        have h4 : 0 ≤ ((i / Y : Nat) : Int) := Int.natCast_nonneg _
        rw [this]
        generalize ((i / Y : Nat) : Int) = z at h3 h4 ⊢
        exact w64_id (by omega) (by omega)
      have hmod : Int.tmod (i : Int) (Y : Int) = ((i % Y : Nat) : Int) := rfl
      rw [if_neg (by simpa using hn), if_pos (by simp [hl2]; omega), if_pos (by omega), hdiv, hmod, acts_eq v hi _ _ _ hn, Option.bind_some, if_pos (by simp; omega), Option.bind_some, w64_id (by omega) (by omega)]
      have e1 : set1 m S Y (i + 1) = set1 m S Y i ++ [actT S Y (i / Y) (i % Y) (m.Actions.getD i z_Action)] := by unfold set1; rw [flat_succ, actL, if_neg hn, List.append_assoc]
      have e2 : doesS m S Y (i + 1) = doesS m S Y i ++ [((set1 m S Y i).length : Int)] := by unfold doesS; rw [map_succ, doesAt, if_neg hn]
      rw [e1, e2]; rfl) (fun k => by
    show machine_kitOf.l1 (k + 1) (set1 m S Y (S * Y)) (doesS m S Y (S * Y)) ((S * Y : Nat) : Int) m = _
    rw [machine_kitOf.l1, if_neg (by rw [v.len]; simp)]) k (by omega)
  have e0 : set1 m S Y 0 = symL Y Y := by simp [set1]
  have e1 : doesS m S Y 0 = [] := by simp [doesS]
  rw [show (machine_kitOf.l1 k (symL Y Y) [] 0 m) = machine_kitOf.l1 k (set1 m S Y 0) (doesS m S Y 0) 0 m from by rw [e0, e1]]
  exact this
end Gp
set_option linter.unusedVariables false
set_option linter.unusedSimpArgs false
namespace Gp
open Gw Gq
def set2 (m : Machine) (S Y n : Nat) : List Tile := set1 m S Y (S * Y) ++ (List.range n).flatMap fun q => (List.range Y).flatMap (arrL S Y q)
theorem arr_len (S Y q n : Nat) : ((List.range n).flatMap (arrL S Y q)).length ≤ n * 2 := flat_len1 (fun i => by simp [arrL]) n
theorem arrs_len (S Y n : Nat) : ((List.range n).flatMap fun q => (List.range Y).flatMap (arrL S Y q)).length ≤ n * (Y * 2) := flat_len1 (fun q => arr_len S Y q Y) n
theorem set2_len {m : Machine} {S Y : Nat} (v : Val m S Y) {n : Nat} (hn : n ≤ S) : (set2 m S Y n).length ≤ 1000 := by
  have h1 := set1_len m (S := S) v.dY.2 (S * Y)
  have h2 := arrs_len S Y n
  have h3 := v.le
  have h4 : n * (Y * 2) ≤ 6 * 8 := Nat.mul_le_mul (by have := v.dS; omega) (by have := v.dY; omega)
  unfold set2
  rw [List.length_append]; omega
theorem signal_eq {m : Machine} {S Y : Nat} (v : Val m S Y) {q : Nat} (hq : q < S) (st : List Tile) (ds : List Int) (b : Int) : machine_kit_signal ⟨m, st, ds, b⟩ 1 q = some (1 + (q : Int)) ∧ machine_kit_signal ⟨m, st, ds, b⟩ 0 q = some (1 + (S : Int) + q) := by
  have h1 := v.dS
  unfold machine_kit_signal
  rw [v.sS]
  refine ⟨?_, ?_⟩
  · rw [if_pos (by simp), w64_id (by omega) (by omega)]
  · rw [if_neg (by simp), w64_id (n := 1 + (S : Int)) (by omega) (by omega), w64_id (by omega) (by omega)]
theorem kit_l3 {m : Machine} {S Y : Nat} (v : Val m S Y) {q : Nat} (hq : q < S) (x : List Tile × List Int) {k : Nat} (hk : Y < k) :
    machine_kitOf.l3 k (set2 m S Y q) 0 m x q = some (set2 m S Y (q + 1)) := by
  have hl0 := set2_len v (n := q) (by omega)
  have := loop_to (F := fun k i l => machine_kitOf.l3 k l i m x q) (S := fun i => set2 m S Y q ++ (List.range i).flatMap (arrL S Y q)) (n := Y) (K := 0) (r := set2 m S Y (q + 1)) (fun k i _ hi => by
    have hd := v.dY
    show machine_kitOf.l3 (k + 1) (set2 m S Y q ++ (List.range i).flatMap (arrL S Y q)) i m x q = _
    have hl := arr_len S Y q i
    have hs := signal_eq v hq (set2 m S Y q ++ (List.range i).flatMap (arrL S Y q)) x.2 (x.1.length : Int)
    rw [machine_kitOf.l3, if_pos (by rw [v.sY]; simpa using hi), head_eq v (by omega) (by omega), Option.bind_some, hs.1, Option.bind_some, hs.2, Option.bind_some, if_pos (by rw [List.length_append]; simp only [List.length_cons, List.length_nil]; omega), w64_id (by omega) (by omega), flat_succ, ← List.append_assoc]
    rfl) (fun k => by
    show machine_kitOf.l3 (k + 1) (set2 m S Y q ++ (List.range Y).flatMap (arrL S Y q)) Y m x q = _
    rw [machine_kitOf.l3, if_neg (by rw [v.sY]; simp)]
    unfold set2
    rw [flat_succ, List.append_assoc]) k (by omega)
  simpa using this
theorem kit_l2 {m : Machine} {S Y : Nat} (v : Val m S Y) (x : List Tile × List Int) {k : Nat} (hk : S + 5 < k) :
    machine_kitOf.l2 k (set2 m S Y 0) 0 m x = some (set2 m S Y S) :=
  loop_to (F := fun k i l => machine_kitOf.l2 k l i m x) (S := set2 m S Y) (n := S) (K := 5) (r := set2 m S Y S) (fun k i hk hi => by
    have hd := v.dS
    have hY := v.dY
    show machine_kitOf.l2 (k + 1) (set2 m S Y i) i m x = _
    rw [machine_kitOf.l2, if_pos (by rw [v.sS]; simpa using hi), kit_l3 v hi x (by omega), Option.bind_some, w64_id (by omega) (by omega)]; rfl) (fun k => by
    show machine_kitOf.l2 (k + 1) (set2 m S Y S) S m x = _
    rw [machine_kitOf.l2, if_neg (by rw [v.sS]; simp)]) k (by omega)
def kitS (m : Machine) (S Y : Nat) : Kit := ⟨m, setS m S Y, doesS m S Y (S * Y), ((set1 m S Y (S * Y)).length : Int)⟩
theorem kitOf_eq {m : Machine} {S Y : Nat} (v : Val m S Y) {k : Nat} (hk : 30 ≤ k) : machine_kitOf k m = some (kitS m S Y) := by
  have h1 := v.dS; have h2 := v.dY; have h3 := v.le
  unfold machine_kitOf
  rw [kit_l0 v (by omega), Option.bind_some, kit_l1 v (by omega), Option.bind_some]
  have e0 : set2 m S Y 0 = set1 m S Y (S * Y) := by simp [set2]
  rw [show machine_kitOf.l2 k (set1 m S Y (S * Y), doesS m S Y (S * Y)).1 0 m (set1 m S Y (S * Y), doesS m S Y (S * Y)) = machine_kitOf.l2 k (set2 m S Y 0) 0 m (set1 m S Y (S * Y), doesS m S Y (S * Y)) from by rw [e0], kit_l2 v _ (by omega)]
  rfl
/-! the reference -/
theorem set1_mul (m : Machine) {S Y : Nat} (hY : 0 < Y) (n : Nat) : set1 m S Y (n * Y) = symL Y Y ++ (List.range n).flatMap fun q => (List.range Y).flatMap fun s => actL m S Y (q * Y + s) := by
  unfold set1; rw [range_mul]
/-! equal sets -/
theorem setS_len {m : Machine} {S Y : Nat} (v : Val m S Y) : (setS m S Y).length ≤ 1000 := set2_len v (Nat.le_refl _)
end Gp
set_option linter.unusedVariables false
set_option linter.unusedSimpArgs false
namespace Gp
open Gw Gq
theorem Fit.val {m : Machine} {c : Config} (h : Fit m c) : ∃ S Y, Val m S Y := val_of (by
  have := of_fit h
  unfold fitsB at this
  simp only [Bool.and_eq_true] at this
  exact this.1.1)
/-! ### colours -/
def colS (m : Machine) (c : Config) : List Int := c.Cells.set c.At.toNat (m.Symbols + c.State * m.Symbols + rdD c.Cells c.At 0)
theorem Fit.col {m : Machine} {c : Config} (h : Fit m c) : machine_head m c.State (rdD c.Cells c.At 0) = some (m.Symbols + c.State * m.Symbols + rdD c.Cells c.At 0) := by
  have hi := h.idx
  have hd := h.dim
  have hc := h.cell
  unfold machine_head
  rw [w64_id (n := c.State * m.Symbols) (by omega) (by omega), w64_id (n := m.Symbols + c.State * m.Symbols) (by omega) (by omega), w64_id (by omega) (by omega)]
/-! ### reading colours -/
structure RS where
  q : Int
  a : Int
  c : List Int
  h : Nat
def stepI (Y : Int) (x : Int) (i : Nat) (s : RS) : RS := if x < Y then s else ⟨Int.tdiv (x - Y) Y, i, s.c.set i (Int.tmod (x - Y) Y), s.h + 1⟩
def stepR (S Y : Int) (x : Int) (i : Nat) (s : RS) : RS := if Y ≤ x ∧ x < Y + S * Y then ⟨Int.tdiv (x - Y) Y, i, s.c ++ [Int.tmod x Y], s.h + 1⟩ else ⟨s.q, s.a, s.c ++ [x], s.h⟩
def runI (Y : Int) (l : List Int) : Nat → RS
  | 0 => ⟨0, 0, l, 0⟩
  | i + 1 => stepI Y (l.getD i 0) i (runI Y l i)
def runR (S Y : Int) (l : List Int) : Nat → RS
  | 0 => ⟨0, 0, [], 0⟩
  | i + 1 => stepR S Y (l.getD i 0) i (runR S Y l i)
theorem runI_len (Y : Int) (l : List Int) : ∀ i, (runI Y l i).c.length = l.length ∧ (runI Y l i).h ≤ i
  | 0 => ⟨rfl, Nat.le_refl _⟩
  | i + 1 => by
    have := runI_len Y l i
    rw [runI, stepI]
    split
    · exact ⟨this.1, by omega⟩
    · exact ⟨by simp [this.1], by simp; omega⟩
theorem runR_len (S Y : Int) (l : List Int) : ∀ i, (runR S Y l i).c.length = i ∧ (runR S Y l i).h ≤ i
  | 0 => ⟨rfl, Nat.le_refl _⟩
  | i + 1 => by
    have := runR_len S Y l i
    rw [runR, stepR]
    split
    · exact ⟨by simp [this.1], by simp; omega⟩
    · exact ⟨by simp [this.1], by simp; omega⟩
theorem tdiv_in {x Y : Int} (hY : 0 < Y) (hx : Y ≤ x) (hm : x ≤ 9223372036854775807) : w64 (Int.tdiv (w64 (x - Y)) Y) = Int.tdiv (x - Y) Y := by
  have h0 : 0 ≤ x - Y := by omega
  rw [w64_id (n := x - Y) (by omega) (by omega)]
  have h1 := Int.tdiv_nonneg h0 (Int.le_of_lt hY)
  have h2 := Int.tdiv_le_self Y h0
  exact w64_id (by omega) (by omega)
theorem getD_ok {l : List Int} (ho : ∀ x ∈ l, ok64 x) (i : Nat) : ok64 (l.getD i 0) := by
  by_cases h : i < l.length
  · rw [show l.getD i 0 = l[i] from by simp [List.getElem?_eq_getElem h]]; exact ho _ (List.getElem_mem h)
  · rw [show l.getD i 0 = 0 from by simp [List.getElem?_eq_none (Nat.le_of_not_lt h)]]; exact ⟨by decide, by decide⟩
end Gp
set_option linter.unusedVariables false
set_option linter.unusedSimpArgs false
namespace Gp
open Gw Gq
theorem tmod_sub {x Y : Int} (hY : 0 < Y) (hx : Y ≤ x) : Int.tmod (x - Y) Y = Int.tmod x Y := by
  rw [Int.tmod_eq_emod_of_nonneg (by omega), Int.tmod_eq_emod_of_nonneg (by omega)]
  exact Int.sub_emod_right x Y
theorem good_same {S Y : Int} (hY : 0 < Y) {l : List Int} (hg : ∀ x ∈ l, x < Y + S * Y) : ∀ i, i ≤ l.length →
    (runI Y l i).q = (runR S Y l i).q ∧ (runI Y l i).a = (runR S Y l i).a ∧ (runI Y l i).h = (runR S Y l i).h ∧ (runI Y l i).c = (runR S Y l i).c ++ l.drop i
  | 0, _ => ⟨rfl, rfl, rfl, rfl⟩
  | i + 1, hi => by
    obtain ⟨h1, h2, h3, h4⟩ := good_same hY hg i (by omega)
    have hlen := runR_len S Y l i
    have hlt : i < l.length := by omega
    have hx : l.getD i 0 = l[i] := by simp [List.getElem?_eq_getElem hlt]
    have hxg : l[i] < Y + S * Y := hg _ (List.getElem_mem hlt)
    have hdrop : l.drop i = l[i] :: l.drop (i + 1) := List.drop_eq_getElem_cons hlt
    rw [runI, runR, stepI, stepR, hx]
    by_cases hc : l[i] < Y
    · rw [if_pos hc, if_neg (by omega)]
      exact ⟨h1, h2, h3, by rw [h4, hdrop]; simp⟩
    · rw [if_neg hc, if_pos ⟨by omega, hxg⟩]
      refine ⟨rfl, rfl, by simp only [h3], ?_⟩
      simp only
      rw [h4, tmod_sub hY (by omega), List.set_append_right _ _ (by omega), hlen.1, Nat.sub_self, hdrop, List.set_cons_zero, List.append_assoc, List.singleton_append]
theorem bad_I {S Y : Int} (hY : 0 < Y) (hS : 0 ≤ S) {l : List Int} : ∀ i, i ≤ l.length → (∃ j, j < i ∧ Y + S * Y ≤ l.getD j 0) → 1 ≤ (runI Y l i).h ∧ ((runI Y l i).h = 1 → S ≤ (runI Y l i).q) := by
  intro i
  induction i with
  | zero => rintro _ ⟨j, hj, _⟩; omega
  | succ i ih =>
    rintro hi ⟨j, hj, hb⟩
    rw [runI, stepI]
    by_cases hji : j < i
    · obtain ⟨h1, h2⟩ := ih (by omega) ⟨j, hji, hb⟩
      split
      · exact ⟨h1, h2⟩
      · exact ⟨by simp, fun h => by simp at h; omega⟩
    · have : j = i := by omega
      subst this
      have hSY : 0 ≤ S * Y := Int.mul_nonneg hS (Int.le_of_lt hY)
      rw [if_neg (by omega)]
      refine ⟨by simp, fun _ => ?_⟩
      show S ≤ Int.tdiv (l.getD j 0 - Y) Y
      rw [Int.tdiv_eq_ediv_of_nonneg (by omega)]
      exact (Int.le_ediv_iff_mul_le hY).2 (by omega)
theorem bad_R {S Y : Int} {l : List Int} : ∀ i, i ≤ l.length → (runR S Y l i).c.length = i ∧ ∀ j, j < i → ¬ (Y ≤ l.getD j 0 ∧ l.getD j 0 < Y + S * Y) → l.getD j 0 ∈ (runR S Y l i).c := by
  intro i
  induction i with
  | zero => exact fun _ => ⟨rfl, fun j hj => by omega⟩
  | succ i ih =>
    intro hi
    obtain ⟨h1, h2⟩ := ih (by omega)
    refine ⟨(runR_len S Y l (i + 1)).1, fun j hj hb => ?_⟩
    rw [runR, stepR]
    by_cases hji : j < i
    · have := h2 j hji hb
      split <;> exact List.mem_append_left _ this
    · have : j = i := by omega
      subst this
      rw [if_neg hb]; exact List.mem_append_right _ (List.mem_singleton.2 rfl)
/-! the two readings -/
def okI : Option Config → Config × Int
  | some c => (c, 0)
  | none => (zC, 6)
def okR : Option Config → Config × Bool
  | some c => (c, true)
  | none => (zC, false)
def rdI (m : Machine) (s : RS) : Option Config := if s.h = 1 ∧ fitsB m ⟨s.q, s.a, s.c⟩ = true then some ⟨s.q, s.a, s.c⟩ else none
end Gp
set_option linter.unusedVariables false
set_option linter.unusedSimpArgs false
namespace Gp
open Gw Gq
theorem colS_get {m : Machine} {c : Config} (h : Fit m c) {i : Nat} (hi : i < c.Cells.length) : (colS m c).getD i 0 = if i = c.At.toNat then m.Symbols + c.State * m.Symbols + rdD c.Cells c.At 0 else c.Cells.getD i 0 := by
  unfold colS
  by_cases he : i = c.At.toNat
  · subst he; rw [if_pos rfl]; simp [hi]
  · rw [if_neg he, List.getD_eq_getElem?_getD, List.getElem?_set_ne (Ne.symm he), ← List.getD_eq_getElem?_getD]
theorem back_run {m : Machine} {c : Config} (h : Fit m c) : ∀ i, i ≤ c.Cells.length → runI m.Symbols (colS m c) i = if i ≤ c.At.toNat then ⟨0, 0, colS m c, 0⟩ else ⟨c.State, c.At, c.Cells, 1⟩ := by
  have hp := h.place
  have hcell := h.cell
  have hd := h.dim
  intro i
  induction i with
  | zero => intro _; rw [if_pos (Nat.zero_le _)]; rfl
  | succ i ih =>
    intro hi
    rw [runI, ih (by omega), stepI, colS_get h (by omega)]
    by_cases h1 : i < c.At.toNat
    · rw [if_pos (Nat.le_of_lt h1), if_pos (show i + 1 ≤ c.At.toNat by omega), if_neg (show ¬ i = c.At.toNat by omega)]
      have := h.cel (c.Cells.getD i 0) (by
        rw [show c.Cells.getD i 0 = c.Cells[i] from by simp [List.getElem?_eq_getElem (show i < c.Cells.length by omega)]]
        exact List.getElem_mem _)
      rw [if_pos this.2]
    · by_cases h2 : i = c.At.toNat
      · subst h2
        have hsy : 0 ≤ c.State * m.Symbols := Int.mul_nonneg hp.1 (by omega)
        rw [if_pos (Nat.le_refl _), if_pos rfl, if_neg (show ¬ c.At.toNat + 1 ≤ c.At.toNat by omega), if_neg (by omega)]
        have e : m.Symbols + c.State * m.Symbols + rdD c.Cells c.At 0 - m.Symbols = rdD c.Cells c.At 0 + m.Symbols * c.State := by rw [Int.mul_comm m.Symbols]; omega
        rw [e]
        have hn : 0 ≤ rdD c.Cells c.At 0 + m.Symbols * c.State := by rw [Int.mul_comm m.Symbols]; omega
        rw [Int.tdiv_eq_ediv_of_nonneg hn, Int.tmod_eq_emod_of_nonneg hn, Int.add_mul_ediv_left _ _ (by omega), Int.add_mul_emod_self_left, Int.ediv_eq_zero_of_lt hcell.1 hcell.2, Int.emod_eq_of_lt hcell.1 hcell.2, Int.zero_add]
        have e2 : (colS m c).set c.At.toNat (rdD c.Cells c.At 0) = c.Cells := by
          unfold colS
          rw [List.set_set]
          have hlt : c.At.toNat < c.Cells.length := by omega
          have : rdD c.Cells c.At 0 = c.Cells[c.At.toNat] := by simp [rdD, List.getElem?_eq_getElem hlt]
          rw [this, List.set_getElem_self]
        simp only
        rw [e2, Int.toNat_of_nonneg hp.2.2.2.2.1]
      · rw [if_neg (show ¬ i ≤ c.At.toNat by omega), if_neg h2, if_neg (show ¬ i + 1 ≤ c.At.toNat by omega)]
        have := h.cel (c.Cells.getD i 0) (by
          rw [show c.Cells.getD i 0 = c.Cells[i] from by simp [List.getElem?_eq_getElem (show i < c.Cells.length by omega)]]
          exact List.getElem_mem _)
        rw [if_pos this.2]
theorem colS_ok {m : Machine} {c : Config} (h : Fit m c) : ∀ x ∈ colS m c, ok64 x := by
  intro x hx
  have hi := h.idx
  have hd := h.dim
  have hc := h.cell
  rcases List.mem_or_eq_of_mem_set hx with h1 | h1
  · have := h.cel x h1; exact ⟨by omega, by omega⟩
  · rw [h1]; exact ⟨by omega, by omega⟩
end Gp
set_option linter.unusedVariables false
set_option linter.unusedSimpArgs false
namespace Gp
open Gw Gq
/-! ### pictures -/
def tileAt (m : Machine) (S Y : Nat) (c : Config) (i : Nat) : Int :=
  if (i : Int) = c.At then doesAt m S Y (c.State * m.Symbols + rdD c.Cells c.At 0).toNat
  else if (i : Int) = toOf m c then ((set1 m S Y (S * Y)).length : Int) + 2 * ((actOf m c).Next * m.Symbols + c.Cells.getD i 0) + 1 - (actOf m c).Move
  else c.Cells.getD i 0
def rowT (m : Machine) (S Y : Nat) (c : Config) : List Int := (List.range c.Cells.length).map (tileAt m S Y c)
theorem Fit.next_in {m : Machine} {c : Config} (h : Fit m c) : 0 ≤ (Gp.actOf m c).Next ∧ (Gp.actOf m c).Next ≤ m.States := by
  have := h.dim
  rcases actB_cases h.actOf with ha | ha
  · rw [ha.1]; omega
  · exact ⟨ha.2.2.2.2.1, Int.le_of_lt ha.2.2.2.2.2⟩
theorem row_eq {m : Machine} {S Y : Nat} (v : Val m S Y) {c : Config} (h : Fit m c) {k : Nat} (hk : 201 < k) : machine_kit_row k (kitS m S Y) ⟨m, c⟩ = some (rowT m S Y c) := by
  have hi := h.idx
  have hp := h.place
  have hm := h.move
  have hn := h.next_in
  have hd := h.dim
  have h24 := v.le
  have hl1 := set1_len m (S := S) v.dY.2 (S * Y)
  unfold machine_kit_row
  rw [does_eq h, Option.bind_some, if_pos ⟨hi.1, hi.2.1⟩, Option.bind_some]
  rw [show (rdD m.Actions (c.State * m.Symbols + rdD c.Cells c.At 0) z_Action) = actOf m c from rfl]
  have hns : 0 ≤ (actOf m c).Next * m.Symbols ∧ (actOf m c).Next * m.Symbols ≤ 24 := by
    refine ⟨Int.mul_nonneg hn.1 (by omega), ?_⟩
    have := Int.mul_le_mul (show (actOf m c).Next ≤ 6 by omega) hd.2.2.2 (by omega) (by omega)
    omega
  have := loop_to (F := fun k i l => machine_kit_row.l0 k l i (kitS m S Y) ⟨m, c⟩ ((actOf m c).Write, (actOf m c).Move, (actOf m c).Next)) (S := fun i => (List.range i).map (tileAt m S Y c)) (n := c.Cells.length) (K := 0) (r := rowT m S Y c) (fun k i _ hlt => by
    show machine_kit_row.l0 (k + 1) ((List.range i).map (tileAt m S Y c)) i (kitS m S Y) ⟨m, c⟩ ((actOf m c).Write, (actOf m c).Move, (actOf m c).Next) = _
    have hcel := h.cel (c.Cells.getD i 0) (by
      rw [show c.Cells.getD i 0 = c.Cells[i] from by simp [List.getElem?_eq_getElem hlt]]
      exact List.getElem_mem _)
    rw [machine_kit_row.l0, if_pos (by simpa using hlt), if_pos (by simp only; omega)]
    simp only
    rw [h.wto, does_eq h, Option.bind_some, rdD_nat]
    have hin : ((if ((i : Int) == c.At) = true then if 0 ≤ c.State * m.Symbols + rdD c.Cells c.At 0 ∧ c.State * m.Symbols + rdD c.Cells c.At 0 < ((kitS m S Y).does.length : Int) then some (rdD (kitS m S Y).does (c.State * m.Symbols + rdD c.Cells c.At 0) 0) else none
        else (if ((i : Int) == toOf m c) = true then some (w64 (w64 (w64 ((kitS m S Y).base + w64 (2 * w64 (w64 ((actOf m c).Next * m.Symbols) + c.Cells.getD i 0))) + 1) - (actOf m c).Move)) else some (c.Cells.getD i 0)).bind fun x => some x) : Option Int) = some (tileAt m S Y c i) := by
      unfold tileAt
      by_cases h1 : (i : Int) = c.At
      · have hdl : (kitS m S Y).does.length = S * Y := by simp [kitS, doesS]
        have hlen := v.len
        have hlt2 : (c.State * m.Symbols + rdD c.Cells c.At 0).toNat < S * Y := by omega
        rw [if_pos (by simpa using h1), if_pos h1, if_pos ⟨hi.1, by rw [hdl, ← hlen]; exact hi.2.1⟩]
        congr 1
        generalize c.State * m.Symbols + rdD c.Cells c.At 0 = z at hlt2 ⊢
        unfold rdD kitS doesS
        simp only [List.getD_eq_getElem?_getD, List.getElem?_map, List.getElem?_range hlt2, Option.map_some, Option.getD_some]
      · rw [if_neg (by simpa using h1), if_neg h1]
        by_cases h2 : (i : Int) = toOf m c
        · rw [if_pos (by simpa using h2), if_pos h2, Option.bind_some, w64_id (n := (actOf m c).Next * m.Symbols) (by omega) (by omega), w64_id (n := (actOf m c).Next * m.Symbols + c.Cells.getD i 0) (by omega) (by omega), w64_id (n := 2 * ((actOf m c).Next * m.Symbols + c.Cells.getD i 0)) (by omega) (by omega)]
          rw [show (kitS m S Y).base = ((set1 m S Y (S * Y)).length : Int) from rfl, w64_id (n := ((set1 m S Y (S * Y)).length : Int) + 2 * ((actOf m c).Next * m.Symbols + c.Cells.getD i 0)) (by omega) (by omega), w64_id (n := ((set1 m S Y (S * Y)).length : Int) + 2 * ((actOf m c).Next * m.Symbols + c.Cells.getD i 0) + 1) (by omega) (by omega), w64_id (by omega) (by omega)]
        · rw [if_neg (by simpa using h2), if_neg h2]; rfl
    rw [hin, Option.bind_some, if_pos (by simp; omega), w64_id (by omega) (by omega), map_succ]; rfl) (fun k => by
    show machine_kit_row.l0 (k + 1) ((List.range c.Cells.length).map (tileAt m S Y c)) c.Cells.length (kitS m S Y) ⟨m, c⟩ _ = _
    rw [machine_kit_row.l0, if_neg (by simp)]; rfl) k (by omega)
  have h0 : machine_kit_row.l0 k [] 0 (kitS m S Y) ⟨m, c⟩ ((actOf m c).Write, (actOf m c).Move, (actOf m c).Next) = some (rowT m S Y c) := this
  rw [h0]; rfl
end Gp
set_option linter.unusedVariables false
set_option linter.unusedSimpArgs false
namespace Gp
open Gw Gq
def zP : Pattern := ⟨0, 0, []⟩
def picS (m : Machine) (S Y : Nat) : Nat → Config → Option (List Int)
  | 0, _ => some []
  | n + 1, c => if noStep m c = 0 then (picS m S Y n (nextC m c)).map (rowT m S Y c ++ ·) else none
theorem rowT_len (m : Machine) (S Y : Nat) (c : Config) : (rowT m S Y c).length = c.Cells.length := by simp [rowT]
theorem next_len (m : Machine) (c : Config) : (nextC m c).Cells.length = c.Cells.length := by simp [nextC]
theorem picS_len {m : Machine} {S Y : Nat} : ∀ (n : Nat) (c : Config) (r : List Int), picS m S Y n c = some r → r.length = n * c.Cells.length
  | 0, c, r, h => by injection h with h; subst h; simp
  | n + 1, c, r, h => by
    rw [picS] at h
    split at h
    · cases hp : picS m S Y n (nextC m c) with
      | none => rw [hp] at h; cases h
      | some q =>
        rw [hp] at h; injection h with h; subst h
        have := picS_len n _ q hp
        rw [List.length_append, rowT_len, this, next_len, Nat.succ_mul, Nat.add_comm]
    · cases h
def endP (acc : List Int) : Option (List Int) → Sum (Pattern × Int) (List Int)
  | some r => .inr (acc ++ r)
  | none => .inl (zP, 6)
theorem pic_loop {m : Machine} {S Y : Nat} (v : Val m S Y) {n : Int} (hn : n ≤ 1000000) : ∀ (d k : Nat) (i : Int) (c : Config) (acc : List Int), 0 ≤ i → i + d = n → d + 203 < k → Fit m c → acc.length + d * c.Cells.length ≤ 1000000 →
    machine_Picture.l0 k m.States m.Symbols c.State c.At c.Cells acc i m n (kitS m S Y) = some (endP acc (picS m S Y d c))
  | 0, k, i, c, acc, h0, hd, hk, h, hl => by
    obtain ⟨k, rfl⟩ : ∃ m, k = m + 1 := ⟨k - 1, by omega⟩
    rw [machine_Picture.l0, if_neg (by simp; omega)]
    simp [picS, endP]
  | d + 1, k, i, c, acc, h0, hd, hk, h, hl => by
    obtain ⟨k, rfl⟩ : ∃ m, k = m + 1 := ⟨k - 1, by omega⟩
    have hp := h.place
    rw [Nat.succ_mul] at hl
    rw [machine_Picture.l0, if_pos (by simp; omega)]
    rw [show (Config.mk c.State c.At c.Cells) = c from rfl, begin_eq (by omega), Option.bind_some]
    rw [show (Runner.mk (Machine.mk (Runner.mk m c).m.States (Runner.mk m c).m.Symbols m.Actions) (Runner.mk m c).Config) = ⟨m, c⟩ from rfl, rstep_eq h, Option.bind_some]
    rw [show (Kit.mk (Machine.mk (kitS m S Y).m.States (kitS m S Y).m.Symbols m.Actions) (kitS m S Y).set (kitS m S Y).does (kitS m S Y).base) = kitS m S Y from rfl]
    rw [show (Runner.mk (Machine.mk m.States m.Symbols m.Actions) c) = ⟨m, c⟩ from rfl, row_eq v h (by omega)]
    rw [picS]
    by_cases hs : noStep m c = 0
    · simp only [hs, bne_self_eq_false, Bool.false_eq_true, if_false, if_true, Option.bind_some]
      rw [if_pos (by rw [rowT_len]; omega), w64_id (by omega) (by omega)]
      have := pic_loop v hn d k (i + 1) (nextC m c) (acc ++ rowT m S Y c) (by omega) (by omega) (by omega) (h.next hs) (by rw [List.length_append, rowT_len, next_len]; omega)
      rw [this]
      cases picS m S Y d (nextC m c) <;> simp [endP]
    · rw [if_pos (by simpa using hs), if_neg hs]; rfl
def picR (n : Int) (w : Int) : Option (List Int) → Pattern × Int
  | some r => (⟨w, n, r⟩, 0)
  | none => (zP, 6)
theorem pic1 {m : Machine} {S Y : Nat} (v : Val m S Y) {c : Config} (h : Fit m c) {n : Int} {k : Nat} (h1 : 1 ≤ n) (h2 : n ≤ 40000) (h3 : (c.Cells.length : Int) * n ≤ 40000) (hk : n.toNat + 204 < k) :
    machine_Picture k m c n = some (picR n c.Cells.length (picS m S Y n.toNat c)) := by
  have hp := h.place
  unfold machine_Picture
  rw [fits1 m c k (by omega), Option.bind_some, of_fit h, if_neg (by simp), if_neg (by simp; omega)]
  have h0 : 0 ≤ (c.Cells.length : Int) * n := Int.mul_nonneg (by omega) (by omega)
  have hm : n.toNat * c.Cells.length ≤ 40000 := by
    have : ((n.toNat * c.Cells.length : Nat) : Int) = (c.Cells.length : Int) * n := by rw [Int.natCast_mul, Int.toNat_of_nonneg (by omega), Int.mul_comm]
    omega
  rw [w64_id (n := (c.Cells.length : Int) * n) (by omega) (by omega), if_neg (by simp; omega), kitOf_eq v (by omega), Option.bind_some, begin_eq (by omega), Option.bind_some]
  have := pic_loop v (n := n) (by omega) n.toNat k 0 c [] (by omega) (by omega) (by omega) h (by simp; omega)
  rw [show (Runner.mk m c).m.States = m.States from rfl, show (Runner.mk m c).m.Symbols = m.Symbols from rfl, show (Runner.mk m c).Config = c from rfl, this, Option.bind_some]
  cases picS m S Y n.toNat c <;> rfl
theorem pic_err {m : Machine} {c : Config} {n : Int} {k : Nat} (hk : 204 ≤ k) (hb : fitsB m c = false ∨ n < 1) : machine_Picture k m c n = some (zP, if fitsB m c = true then 2 else 1) := by
  unfold machine_Picture
  rw [fits1 m c k (by omega), Option.bind_some]
  cases hf : fitsB m c
  · rfl
  · rw [if_neg (by simp), if_pos (by rcases hb with h | h; · rw [hf] at h; cases h
                                     · simpa using h)]; rfl
theorem pic_many {m : Machine} {c : Config} (h : Fit m c) {n : Int} {k : Nat} (hk : 204 ≤ k) (h1 : 1 ≤ n) (hm : n ≤ 9223372036854775807) (hb : 40000 < n ∨ 40000 < (c.Cells.length : Int) * n) : machine_Picture k m c n = some (zP, 4) := by
  have hp := h.place
  unfold machine_Picture
  rw [fits1 m c k (by omega), Option.bind_some, of_fit h, if_neg (by simp), if_neg (by simp; omega), if_pos]
  · rfl
  · simp only [Bool.or_eq_true, decide_eq_true_eq]
    by_cases hn : 40000 < n
    · exact .inl hn
    · right
      have h0 : 0 ≤ (c.Cells.length : Int) * n := Int.mul_nonneg (by omega) (by omega)
      have h9 : (c.Cells.length : Int) * n ≤ 200 * 40000 := Int.mul_le_mul (by omega) (by omega) (by omega) (by omega)
      rw [w64_id (by omega) (by omega)]
      rcases hb with hb | hb
      · exact absurd hb hn
      · exact hb
end Gp
set_option linter.unusedVariables false
set_option linter.unusedSimpArgs false
namespace Gp
open Gw Gq
theorem run_stop {m : Machine} {c : Config} (h : noStep m c ≠ 0) : ∀ b, runS m b c = (c, 0)
  | 0 => rfl
  | b + 1 => by rw [runS, if_neg h]
theorem run_add {m : Machine} : ∀ (a b : Nat) (c : Config), runS m (a + b) c = ((runS m b (runS m a c).1).1, (runS m a c).2 + (runS m b (runS m a c).1).2)
  | 0, b, c => by simp [runS]
  | a + 1, b, c => by
    rw [Nat.succ_add, runS, runS]
    by_cases h : noStep m c = 0
    · rw [if_pos h, if_pos h, run_add a b]; simp only [Prod.mk.injEq, true_and]; omega
    · rw [if_neg h, if_neg h, run_stop h b]; rfl
/-! cutting off the first row -/
end Gp
set_option linter.unusedVariables false
set_option linter.unusedSimpArgs false
namespace Gq
theorem flat_at {α : Type} {f : Nat → List α} : ∀ {n i : Nat} {t : α}, ((List.range n).flatMap f)[i]? = some t → ∃ q j, q < n ∧ (f q)[j]? = some t ∧ i = ((List.range q).flatMap f).length + j
  | 0, i, t, h => by simp at h
  | n + 1, i, t, h => by
    rw [flat_succ, List.getElem?_append] at h
    split at h
    · obtain ⟨q, j, hq, hj, hi⟩ := flat_at h
      exact ⟨q, j, by omega, hj, hi⟩
    · exact ⟨n, _, by omega, h, by omega⟩
theorem flat_get {α : Type} {f : Nat → List α} : ∀ {n q j : Nat} {t : α}, q < n → (f q)[j]? = some t → ((List.range n).flatMap f)[((List.range q).flatMap f).length + j]? = some t
  | 0, q, j, t, h, _ => by omega
  | n + 1, q, j, t, h, hj => by
    rw [flat_succ, List.getElem?_append]
    by_cases hq : q < n
    · have := flat_get (n := n) hq hj
      rw [if_pos (by by_cases hl : ((List.range q).flatMap f).length + j < ((List.range n).flatMap f).length
                     · exact hl
                     · rw [List.getElem?_eq_none (by omega)] at this; cases this)]
      exact this
    · have : q = n := by omega
      subst this
      rw [if_neg (by omega), show ((List.range q).flatMap f).length + j - ((List.range q).flatMap f).length = j by omega]; exact hj
theorem flat_len {α : Type} {f : Nat → List α} {b : Nat} (hf : ∀ i, (f i).length = b) : ∀ n, ((List.range n).flatMap f).length = n * b
  | 0 => by simp
  | n + 1 => by
    rw [flat_succ, List.length_append, Nat.add_mul, Nat.one_mul, flat_len hf n, hf n]
end Gq
namespace Gp
open Gw Gq
/-! ### where the tiles of a machine lie -/
theorem hd_ge (Y q s : Nat) : (Y : Int) ≤ hd Y q s := by unfold hd; omega
theorem hd_inj {Y q s q' s' : Nat} (h : hd Y q s = hd Y q' s') : q * Y + s = q' * Y + s' := by unfold hd at h; omega
theorem sym_at {Y n i : Nat} {t : Tile} (h : (symL Y n)[i]? = some t) : i < n ∧ t = symT i := by
  unfold symL at h
  rw [List.getElem?_map] at h
  by_cases hi : i < n
  · rw [List.getElem?_range hi] at h; injection h with h; exact ⟨hi, h.symm⟩
  · rw [List.getElem?_eq_none (by simpa using hi)] at h; cases h
theorem sym_len (Y n : Nat) : (symL Y n).length = n := by simp [symL]
theorem act_at {m : Machine} {S Y i j : Nat} {t : Tile} (h : (actL m S Y i)[j]? = some t) : j = 0 ∧ (m.Actions.getD i z_Action).Next ≠ S ∧ t = actT S Y (i / Y) (i % Y) (m.Actions.getD i z_Action) := by
  unfold actL at h
  split at h
  · simp at h
  · cases j with
    | zero => simp at h; exact ⟨rfl, by assumption, h.symm⟩
    | succ j => simp at h
inductive Kind (m : Machine) (S Y : Nat) : Nat → Tile → Prop
  | sym (s : Nat) (hs : s < Y) : Kind m S Y s (symT s)
  | act (n : Nat) (hn : n < S * Y) (ha : (m.Actions.getD n z_Action).Next ≠ S) : Kind m S Y (set1 m S Y n).length (actT S Y (n / Y) (n % Y) (m.Actions.getD n z_Action))
  | inn (q s : Nat) (hq : q < S) (hs : s < Y) : Kind m S Y ((set1 m S Y (S * Y)).length + 2 * (q * Y + s)) ⟨hd Y q s, 0, s, 1 + q⟩
  | out (q s : Nat) (hq : q < S) (hs : s < Y) : Kind m S Y ((set1 m S Y (S * Y)).length + 2 * (q * Y + s) + 1) ⟨hd Y q s, 1 + S + q, s, 0⟩
theorem set1_length (m : Machine) (S Y n : Nat) : (set1 m S Y n).length = Y + ((List.range n).flatMap (actL m S Y)).length := by
  unfold set1; rw [List.length_append, sym_len]
theorem arr_length (S Y q n : Nat) : ((List.range n).flatMap (arrL S Y q)).length = n * 2 := flat_len (f := arrL S Y q) (b := 2) (fun i => rfl) n
theorem arrs_length (S Y n : Nat) : ((List.range n).flatMap fun q => (List.range Y).flatMap (arrL S Y q)).length = n * (Y * 2) := flat_len (f := fun q => (List.range Y).flatMap (arrL S Y q)) (b := Y * 2) (fun q => arr_length S Y q Y) n
theorem set_at {m : Machine} {S Y i : Nat} {t : Tile} (h : (setS m S Y)[i]? = some t) : Kind m S Y i t := by
  unfold setS at h
  rw [List.getElem?_append] at h
  split at h
  · unfold set1 at h
    rw [List.getElem?_append] at h
    split at h
    · obtain ⟨hi, rfl⟩ := sym_at h
      exact .sym i hi
    · rw [sym_len] at h
      obtain ⟨n, j, hn, hj, hi⟩ := flat_at h
      obtain ⟨rfl, ha, rfl⟩ := act_at hj
      have hk := Kind.act (m := m) (S := S) (Y := Y) n hn ha
      rename_i h1 h2
      rw [sym_len] at h2
      have : i = (set1 m S Y n).length := by rw [set1_length]; omega
      rw [this]; exact hk
  · obtain ⟨q, j, hq, hj, hi⟩ := flat_at h
    obtain ⟨s, j2, hs, hj2, hi2⟩ := flat_at hj
    subst hi2
    clear hj
    rename_i h1
    rw [arrs_length, arr_length] at hi
    have e : q * (Y * 2) = 2 * (q * Y) := by rw [← Nat.mul_assoc, Nat.mul_comm]
    match j2, hj2 with
    | 0, hj =>
      simp [arrL] at hj
      rw [← hj, show i = (set1 m S Y (S * Y)).length + 2 * (q * Y + s) by omega]
      exact .inn q s hq hs
    | 1, hj =>
      simp [arrL] at hj
      rw [← hj, show i = (set1 m S Y (S * Y)).length + 2 * (q * Y + s) + 1 by omega]
      exact .out q s hq hs
    | j + 2, hj => simp [arrL] at hj
theorem set_get {m : Machine} {S Y i : Nat} {t : Tile} (h : Kind m S Y i t) : (setS m S Y)[i]? = some t := by
  unfold setS
  cases h with
  | sym s hs =>
    rw [List.getElem?_append, if_pos (by rw [set1_length]; omega)]
    unfold set1
    rw [List.getElem?_append, if_pos (by rw [sym_len]; exact hs)]
    simp [symL, hs]
  | act n hn ha =>
    have hg := flat_get (f := actL m S Y) (j := 0) (t := actT S Y (n / Y) (n % Y) (m.Actions.getD n z_Action)) hn (by rw [actL, if_neg ha]; rfl)
    have hlt : ((List.range n).flatMap (actL m S Y)).length < ((List.range (S * Y)).flatMap (actL m S Y)).length := by
      by_cases hl : ((List.range n).flatMap (actL m S Y)).length < ((List.range (S * Y)).flatMap (actL m S Y)).length
      · exact hl
      · rw [List.getElem?_eq_none (by omega)] at hg; cases hg
    rw [List.getElem?_append, if_pos (by rw [set1_length, set1_length]; omega), set1_length]
    unfold set1
    rw [List.getElem?_append, if_neg (by rw [sym_len]; omega), sym_len, show ∀ a, Y + a - Y = a + 0 from fun a => by omega]
    exact hg
  | inn q s hq hs =>
    have hg := flat_get (f := fun q => (List.range Y).flatMap (arrL S Y q)) hq (flat_get (f := arrL S Y q) (j := 0) (t := ⟨hd Y q s, 0, s, 1 + q⟩) hs rfl)
    rw [arrs_length, arr_length] at hg
    have e : q * (Y * 2) = 2 * (q * Y) := by rw [← Nat.mul_assoc, Nat.mul_comm]
    rw [List.getElem?_append, if_neg (by omega), show (set1 m S Y (S * Y)).length + 2 * (q * Y + s) - (set1 m S Y (S * Y)).length = q * (Y * 2) + (s * 2 + 0) by omega]
    exact hg
  | out q s hq hs =>
    have hg := flat_get (f := fun q => (List.range Y).flatMap (arrL S Y q)) hq (flat_get (f := arrL S Y q) (j := 1) (t := ⟨hd Y q s, 1 + S + q, s, 0⟩) hs rfl)
    rw [arrs_length, arr_length] at hg
    have e : q * (Y * 2) = 2 * (q * Y) := by rw [← Nat.mul_assoc, Nat.mul_comm]
    rw [List.getElem?_append, if_neg (by omega), show (set1 m S Y (S * Y)).length + 2 * (q * Y + s) + 1 - (set1 m S Y (S * Y)).length = q * (Y * 2) + (s * 2 + 1) by omega]
    exact hg
theorem Kind.S_lo {m : Machine} {S Y i : Nat} {t : Tile} (h : Kind m S Y i t) : (t.S < (Y : Int) ∧ t.N < (Y : Int) ∧ (i : Int) = t.S) ∨ (Y : Int) ≤ t.S ∨ (t.S < (Y : Int) ∧ (Y : Int) ≤ t.N) := by
  cases h with
  | sym s hs => exact .inl ⟨Int.ofNat_lt.2 hs, Int.ofNat_lt.2 hs, rfl⟩
  | act n hn ha => right; left; unfold actT; split <;> exact hd_ge _ _ _
  | inn q s hq hs => exact .inr (.inr ⟨Int.ofNat_lt.2 hs, hd_ge _ _ _⟩)
  | out q s hq hs => exact .inr (.inr ⟨Int.ofNat_lt.2 hs, hd_ge _ _ _⟩)
theorem Kind.isact {m : Machine} {S Y i : Nat} {t : Tile} (h : Kind m S Y i t) (hs : (Y : Int) ≤ t.S) : ∃ n, n < S * Y ∧ (m.Actions.getD n z_Action).Next ≠ S ∧ i = (set1 m S Y n).length ∧ t = actT S Y (n / Y) (n % Y) (m.Actions.getD n z_Action) := by
  cases h with
  | sym s hs' => simp only [symT] at hs; omega
  | act n hn ha => exact ⟨n, hn, ha, rfl, rfl⟩
  | inn q s hq hs' => simp only at hs; omega
  | out q s hq hs' => simp only at hs; omega
theorem Kind.isarr {m : Machine} {S Y i : Nat} {t : Tile} (h : Kind m S Y i t) (hs : t.S < (Y : Int)) (hn : (Y : Int) ≤ t.N) : ∃ q s, q < S ∧ s < Y ∧ ((i = (set1 m S Y (S * Y)).length + 2 * (q * Y + s) ∧ t = ⟨hd Y q s, 0, s, 1 + q⟩) ∨ (i = (set1 m S Y (S * Y)).length + 2 * (q * Y + s) + 1 ∧ t = ⟨hd Y q s, 1 + S + q, s, 0⟩)) := by
  cases h with
  | sym s hs' => simp only [symT] at hn; omega
  | act n hn ha => have : (Y : Int) ≤ (actT S Y (n / Y) (n % Y) (m.Actions.getD n z_Action)).S := by unfold actT; split <;> exact hd_ge _ _ _
                   omega
  | inn q s hq hs' => exact ⟨q, s, hq, hs', .inl ⟨rfl, rfl⟩⟩
  | out q s hq hs' => exact ⟨q, s, hq, hs', .inr ⟨rfl, rfl⟩⟩
theorem actT_S (S Y q s : Nat) (a : Action) : (actT S Y q s a).S = hd Y q s := by unfold actT; split <;> rfl
theorem set_uniq {m : Machine} {S Y i j : Nat} {t : Tile} (hi : Kind m S Y i t) (hj : Kind m S Y j t) : i = j := by
  rcases hi.S_lo with h | h | h
  · rcases hj.S_lo with h' | h' | h'
    · omega
    · omega
    · omega
  · obtain ⟨n, hn, ha, rfl, rfl⟩ := hi.isact h
    obtain ⟨n', hn', ha', rfl, he⟩ := hj.isact h
    have hS := congrArg Tile.S he
    rw [actT_S, actT_S] at hS
    have := hd_inj hS
    rw [Nat.mul_comm, Nat.div_add_mod, Nat.mul_comm, Nat.div_add_mod] at this
    rw [this]
  · obtain ⟨q, s, hq, hs, h1⟩ := hi.isarr h.1 h.2
    obtain ⟨q', s', hq', hs', h2⟩ := hj.isarr h.1 h.2
    rcases h1 with ⟨rfl, rfl⟩ | ⟨rfl, rfl⟩
    · rcases h2 with ⟨rfl, he⟩ | ⟨rfl, he⟩
      · have := hd_inj (congrArg Tile.N he); omega
      · have := congrArg Tile.W he; simp only at this; omega
    · rcases h2 with ⟨rfl, he⟩ | ⟨rfl, he⟩
      · have := congrArg Tile.W he; simp only at this; omega
      · have := hd_inj (congrArg Tile.N he); omega
end Gp
set_option linter.unusedVariables false
set_option linter.unusedSimpArgs false
namespace Gp
open Gw Gq
/-! ### the tile that shows a cell of a step -/
def eastOf (m : Machine) (c : Config) (x : Int) : Int := if c.At = x ∧ toOf m c = x + 1 then 1 + (actOf m c).Next else if c.At = x + 1 ∧ toOf m c = x then 1 + m.States + (actOf m c).Next else 0
def wantT (m : Machine) (c : Config) (x : Nat) : Tile := ⟨(colS m (nextC m c)).getD x 0, eastOf m c x, (colS m c).getD x 0, eastOf m c ((x : Int) - 1)⟩
theorem noStep_zero {m : Machine} {c : Config} (h : noStep m c = 0) : (actOf m c).Next ≠ m.States ∧ 0 ≤ toOf m c ∧ toOf m c < (c.Cells.length : Int) := by
  unfold noStep at h
  split at h
  · cases h
  · split at h
    · cases h
    · exact ⟨by assumption, by omega, by omega⟩
theorem getD_set (l : List Int) (i : Nat) (v d : Int) (x : Nat) : (l.set i v).getD x d = if x = i ∧ x < l.length then v else l.getD x d := by
  rw [List.getD_eq_getElem?_getD, List.getD_eq_getElem?_getD, List.getElem?_set]
  by_cases h : i = x
  · subst h
    by_cases hl : i < l.length
    · simp [hl]
    · simp [hl]
  · rw [if_neg h, if_neg (by omega)]
theorem colS_at {m : Machine} {c : Config} (h : Fit m c) (x : Nat) (hx : x < c.Cells.length) : (colS m c).getD x 0 = if (x : Int) = c.At then m.Symbols + c.State * m.Symbols + c.Cells.getD x 0 else c.Cells.getD x 0 := by
  have hp := h.place
  unfold colS
  rw [getD_set]
  by_cases he : (x : Int) = c.At
  · rw [if_pos ⟨by omega, hx⟩, if_pos he, ← he, rdD_nat]
  · rw [if_neg (by omega), if_neg he]
theorem hd_div {Y : Nat} (n : Nat) : hd Y (n / Y) (n % Y) = ((Y + n : Nat) : Int) := by
  unfold hd
  rw [Nat.add_assoc, Nat.mul_comm (n / Y) Y, Nat.div_add_mod]
theorem Tile.ext' {a b : Tile} (h1 : a.N = b.N) (h2 : a.E = b.E) (h3 : a.S = b.S) (h4 : a.W = b.W) : a = b := by
  cases a; cases b; simp only at h1 h2 h3 h4; subst h1 h2 h3 h4; rfl
theorem nextC_at {m : Machine} {c : Config} (h : Fit m c) (x : Nat) (hx : x < c.Cells.length) : (nextC m c).Cells.getD x 0 = if (x : Int) = c.At then (actOf m c).Write else c.Cells.getD x 0 := by
  have hp := h.place
  unfold nextC
  simp only
  rw [getD_set]
  by_cases he : (x : Int) = c.At
  · rw [if_pos ⟨by omega, hx⟩, if_pos he]
  · rw [if_neg (by omega), if_neg he]
theorem want_kind {m : Machine} {S Y : Nat} (v : Val m S Y) {c : Config} (h : Fit m c) (hs : noStep m c = 0) {x : Nat} (hx : x < c.Cells.length) : ∃ i : Nat, tileAt m S Y c x = i ∧ Kind m S Y i (wantT m c x) := by
  have hz := noStep_zero hs
  have hm := h.move
  have hp := h.place
  have hcel := h.cel (c.Cells.getD x 0) (by
    rw [show c.Cells.getD x 0 = c.Cells[x] from by simp [List.getElem?_eq_getElem hx]]
    exact List.getElem_mem _)
  have hto : toOf m c = c.At + 2 * (actOf m c).Move - 1 := rfl
  have hne := colS_at (h.next hs) x (by rw [next_len]; exact hx)
  rw [nextC_at h x hx, show (nextC m c).At = toOf m c from rfl, show (nextC m c).State = (actOf m c).Next from rfl] at hne
  have hso := colS_at h x hx
  have hsY := v.sY
  have hsS := v.sS
  by_cases h1 : (x : Int) = c.At
  · have hi := h.idx
    have hidx : c.Cells.getD x 0 = rdD c.Cells c.At 0 := by rw [← h1, rdD_nat]
    obtain ⟨n, hn⟩ : ∃ n : Nat, c.State * m.Symbols + rdD c.Cells c.At 0 = n := ⟨(c.State * m.Symbols + rdD c.Cells c.At 0).toNat, by omega⟩
    have hact : m.Actions.getD n z_Action = actOf m c := by unfold actOf; rw [hn, rdD_nat]
    have hlt : n < S * Y := by rw [← v.len]; omega
    refine ⟨(set1 m S Y n).length, ?_, ?_⟩
    · unfold tileAt
      rw [if_pos h1, hn, Int.toNat_natCast]
      unfold doesAt
      rw [if_neg (by rw [hact, ← hsS]; exact hz.1)]
    · have hk := Kind.act (m := m) (S := S) (Y := Y) n hlt (by rw [hact, ← hsS]; exact hz.1)
      have : wantT m c x = actT S Y (n / Y) (n % Y) (m.Actions.getD n z_Action) := by
        have ha : actT S Y (n / Y) (n % Y) (actOf m c) = if (actOf m c).Move = 0 then ⟨(actOf m c).Write, 0, hd Y (n / Y) (n % Y), 1 + S + (actOf m c).Next⟩ else ⟨(actOf m c).Write, 1 + (actOf m c).Next, hd Y (n / Y) (n % Y), 0⟩ := rfl
        rw [hact, ha]
        unfold wantT
        rw [hd_div, hne, hso, if_neg (by omega), if_pos h1, if_pos h1]
        rcases hm with hm | hm
        · rw [if_pos hm]
          unfold eastOf
          refine Tile.ext' rfl ?_ ?_ ?_
          · simp only; rw [if_neg (by omega), if_neg (by omega)]
          · simp only; rw [hidx]; omega
          · simp only; rw [if_neg (by omega), if_pos (by omega), hsS]
        · rw [if_neg (by omega)]
          unfold eastOf
          refine Tile.ext' rfl ?_ ?_ ?_
          · simp only; rw [if_pos (by omega)]
          · simp only; rw [hidx]; omega
          · simp only; rw [if_neg (by omega), if_neg (by omega)]
      rw [this]; exact hk
  · rw [if_neg h1] at hne hso
    by_cases h2 : (x : Int) = toOf m c
    · rw [if_pos h2] at hne
      have hn := h.next_in
      obtain ⟨q, hq⟩ : ∃ q : Nat, (actOf m c).Next = q := ⟨(actOf m c).Next.toNat, by omega⟩
      obtain ⟨s, hsc⟩ : ∃ s : Nat, c.Cells.getD x 0 = s := ⟨(c.Cells.getD x 0).toNat, by omega⟩
      have hqY : (q : Int) * m.Symbols = ((q * Y : Nat) : Int) := by rw [hsY, Int.natCast_mul]
      have hta : tileAt m S Y c x = ((set1 m S Y (S * Y)).length : Int) + 2 * (((q * Y : Nat) : Int) + s) + 1 - (actOf m c).Move := by
        unfold tileAt
        rw [if_neg h1, if_pos h2, hq, hsc, hqY]
      have hcol : m.Symbols + (actOf m c).Next * m.Symbols + (s : Int) = hd Y q s := by
        rw [hq, hqY, hsY]; unfold hd; omega
      rw [hsc, hcol] at hne
      rw [hsc] at hso
      rcases hm with hm | hm
      · refine ⟨(set1 m S Y (S * Y)).length + 2 * (q * Y + s) + 1, by rw [hta, hm]; omega, ?_⟩
        have hk := Kind.out (m := m) (S := S) (Y := Y) q s (by omega) (by omega)
        have : wantT m c x = ⟨hd Y q s, 1 + S + q, s, 0⟩ := by
          unfold wantT eastOf
          rw [hne, hso, if_neg (by omega), if_pos (by omega), if_neg (by omega), if_neg (by omega), hsS, hq]
        rw [this]; exact hk
      · refine ⟨(set1 m S Y (S * Y)).length + 2 * (q * Y + s), by rw [hta, hm]; omega, ?_⟩
        have hk := Kind.inn (m := m) (S := S) (Y := Y) q s (by omega) (by omega)
        have : wantT m c x = ⟨hd Y q s, 0, s, 1 + q⟩ := by
          unfold wantT eastOf
          rw [hne, hso, if_neg (by omega), if_neg (by omega), if_pos (by omega), hq]
        rw [this]; exact hk
    · rw [if_neg h2] at hne
      obtain ⟨s, hsc⟩ : ∃ s : Nat, c.Cells.getD x 0 = s := ⟨(c.Cells.getD x 0).toNat, by omega⟩
      have hta : tileAt m S Y c x = (s : Int) := by
        unfold tileAt
        rw [if_neg h1, if_neg h2, hsc]
      refine ⟨s, hta, ?_⟩
      have hk := Kind.sym (m := m) (S := S) (Y := Y) s (by omega)
      have : wantT m c x = symT s := by
        unfold wantT eastOf symT
        rw [hne, hso, hsc, if_neg (by omega), if_neg (by omega), if_neg (by omega), if_neg (by omega)]
      rw [this]; exact hk
theorem bind_eq {α β : Type} {o : Option α} {b : α} {f : α → Option β} {r : Option β} (h : o = some b) (h2 : f b = r) : o.bind f = r := by rw [h]; exact h2
end Gp
set_option linter.unusedVariables false
set_option linter.unusedSimpArgs false
namespace Gp
open Gw Gq
theorem east_first {m : Machine} {c : Config} (h : Fit m c) (hs : noStep m c = 0) : eastOf m c (((0 : Nat) : Int) - 1) = 0 := by
  have hz := noStep_zero hs
  have hp := h.place
  unfold eastOf
  rw [if_neg (by omega), if_neg (by omega)]
def endR (acc : List Int) : Option (List Int) → Sum (Pattern × Bool) (List Int)
  | some r => .inr (acc ++ r)
  | none => .inl (zP, false)
def picQ (n : Int) (w : Int) : Option (List Int) → Pattern × Bool
  | some r => (⟨w, n, r⟩, true)
  | none => (zP, false)
end Gp
set_option linter.unusedVariables false
set_option linter.unusedSimpArgs false
namespace Gq
theorem loop_all {σ ρ τ : Type} {F : Nat → Int → σ → Option (Sum ρ τ)} {S : Nat → σ} {b : Nat → Bool} {n K : Nat} {r : ρ} {e : τ} (hs : ∀ k i, K ≤ k → i < n → F (k + 1) (i : Int) (S i) = if b i = true then F k ((i + 1 : Nat) : Int) (S (i + 1)) else some (.inl r)) (he : ∀ k, F (k + 1) (n : Int) (S n) = some (.inr e)) :
    ∀ k, n + K < k → F k 0 (S 0) = some (if (List.range n).all b = true then .inr e else .inl r) := by
  have key : ∀ d i k, i + d = n → d + K < k → F k (i : Int) (S i) = some (if (List.range' i d).all b = true then .inr e else .inl r) := by
    intro d
    induction d with
    | zero =>
      intro i k hi hk
      obtain ⟨k, rfl⟩ : ∃ m, k = m + 1 := ⟨k - 1, by omega⟩
      have : i = n := by omega
      subst this; rw [he]; rfl
    | succ d ih =>
      intro i k hi hk
      obtain ⟨k, rfl⟩ : ∃ m, k = m + 1 := ⟨k - 1, by omega⟩
      rw [hs k i (by omega) (by omega), List.range'_succ, List.all_cons]
      cases hb : b i
      · rfl
      · rw [if_pos rfl, ih (i + 1) k (by omega) (by omega)]; rfl
  intro k hk
  rw [List.range_eq_range']
  exact key n 0 k (by omega) hk
theorem firstS_ge' {α : Type} {p : α → Bool} : ∀ (xs : List α) (i : Nat), (match firstS (fun i a => if p a = true then none else some (i : Int)) i xs with
    | some x => decide (0 ≤ x)
    | none => false) = !xs.all p
  | [], i => rfl
  | a :: r, i => by
    rw [firstS]
    cases h : p a
    · simp [h]
    · simp only [if_true, List.all_cons, h, Bool.true_and]
      exact firstS_ge' r (i + 1)
end Gq
namespace Gp
open Gw Gq
/-! ### sets of tiles and patterns -/
def inCol (c : Int) : Bool := decide (0 ≤ c ∧ c < 1000)
def colB (t : Tile) : Bool := inCol t.N && inCol t.E && inCol t.S && inCol t.W
theorem idx_col (xs : List Int) (hl : xs.length ≤ 1000000) (k : Nat) (hk : xs.length < k) :
    slices_IndexFunc_int_int_with_tile_colour_1.l0 k 0 xs = some (fin (firstS (fun i a => if inCol a = true then none else some (i : Int)) 0 xs)) := by
  have := scan (F := fun k i => slices_IndexFunc_int_int_with_tile_colour_1.l0 k i xs) (xs := xs) (g := fun i a => if inCol a = true then none else some (i : Int)) (fun k i hi => by
    show slices_IndexFunc_int_int_with_tile_colour_1.l0 (k + 1) i xs = _
    rw [slices_IndexFunc_int_int_with_tile_colour_1.l0]
    by_cases h : i < xs.length
    · have h' : (i : Int) < (xs.length : Int) := by omega
      have h2 : 0 ≤ (i : Int) ∧ (i : Int) < (xs.length : Int) := by omega
      rw [dif_pos h, if_pos (by simpa using h'), if_pos h2, rdD_get h, tile_colour_1, w64_id (by omega) (by omega)]
      by_cases hb : 0 ≤ xs[i] ∧ xs[i] < 1000
      · have h3 : ¬ (xs[i] < 0 ∨ 1000 ≤ xs[i]) := by omega
        simp [inCol, hb]
        intro hh; exact absurd hh h3
      · have h3 : (xs[i] < 0 ∨ 1000 ≤ xs[i]) := by omega
        simp [inCol, hb, h3]
    · have h' : ¬ (i : Int) < (xs.length : Int) := by omega
      rw [dif_neg h, if_neg (by simpa using h')]) xs.length k 0 (by simp) hk
  simpa using this
theorem colour_eq (xs : List Int) (hl : xs.length ≤ 1000000) (k : Nat) (hk : xs.length < k) : tile_colour k xs = some (xs.all inCol) := by
  unfold tile_colour slices_ContainsFunc_int_int_with_tile_colour_1 slices_IndexFunc_int_int_with_tile_colour_1
  rw [idx_col xs hl k hk]
  have := firstS_ge' (p := inCol) xs 0
  cases hf : firstS (fun i a => if inCol a = true then none else some (i : Int)) 0 xs <;> rw [hf] at this <;> cases ha : xs.all inCol <;> rw [ha] at this <;> simp [fin, sumb] at this ⊢
  · exact this
  · exact this
def metS (set : List Tile) (i : Nat) : List (Tile × Bool) := (set.take i).map fun t => (t, true)
theorem mget_met (t : Tile) : ∀ l : List Tile, mget t false (l.map fun t => (t, true)) = decide (t ∈ l)
  | [] => rfl
  | a :: r => by
    simp only [List.map_cons, mget]
    by_cases h : t = a
    · simp [h]
    · rw [if_neg h, mget_met t r]; simp [h]
theorem mput_met (t : Tile) : ∀ l : List Tile, t ∉ l → mput t true (l.map fun t => (t, true)) = (l.map fun t => (t, true)) ++ [(t, true)]
  | [], _ => rfl
  | a :: r, h => by
    simp only [List.mem_cons, not_or] at h
    simp only [List.map_cons, mput, if_neg h.1, mput_met t r h.2, List.cons_append]
def newB (set : List Tile) (i : Nat) : Bool := !decide (set.getD i z_Tile ∈ set.take i) && colB (set.getD i z_Tile)
def validT (set : List Tile) : Bool := decide (set.length ≤ 1000) && (List.range set.length).all (newB set)
theorem tile_valid (set : List Tile) {k : Nat} (hk : 1006 ≤ k) (hl : set.length ≤ 9223372036854775807) : tile_Valid k set = some (validT set) := by
  unfold tile_Valid validT
  by_cases hb : set.length ≤ 1000
  · rw [if_neg (by simp; omega)]
    have := loop_all (F := fun k i (m : List (Tile × Bool)) => tile_Valid.l0 k m i set) (S := metS set) (b := newB set) (n := set.length) (K := 5) (r := false) (e := ()) (fun k i hk hi => by
      show tile_Valid.l0 (k + 1) (metS set i) i set = if newB set i = true then tile_Valid.l0 k (metS set (i + 1)) ((i + 1 : Nat) : Int) set else _
      rw [tile_Valid.l0, if_pos (by simpa using hi), if_pos (by omega), rdD_nat, metS, mget_met]
      have ht : set.getD i z_Tile = set[i] := by simp [List.getElem?_eq_getElem hi]
      unfold newB
      by_cases hm : set.getD i z_Tile ∈ set.take i
      · rw [if_pos (by simpa using hm), show decide (set.getD i z_Tile ∈ set.take i) = true from decide_eq_true hm]; rfl
      · rw [if_neg (by simpa using hm), colour_eq _ (by simp) k (by simp; omega), Option.bind_some, Option.bind_some]
        have hc : ([(set.getD i z_Tile).N, (set.getD i z_Tile).E, (set.getD i z_Tile).S, (set.getD i z_Tile).W].all inCol) = colB (set.getD i z_Tile) := by simp [colB, Bool.and_assoc]
        rw [hc]
        cases hcb : colB (set.getD i z_Tile)
        · simp
        · rw [mput_met _ _ hm, w64_id (by omega) (by omega)]
          simp only [hm, Bool.not_true, Bool.false_eq_true, if_false, decide_false, Bool.not_false, Bool.and_self, if_true]
          unfold metS
          rw [List.take_add_one, List.map_append, List.getElem?_eq_getElem hi, ht]; rfl) (fun k => by
      show tile_Valid.l0 (k + 1) (metS set set.length) set.length set = _
      rw [tile_Valid.l0, if_neg (by simp)]) k (by omega)
    have h0 : tile_Valid.l0 k [] 0 set = some (if (List.range set.length).all (newB set) = true then .inr () else .inl false) := this
    rw [h0]
    cases (List.range set.length).all (newB set) <;> simp [sumb, hb]
  · rw [if_pos (by simp; omega)]; simp [hb]
def formB (p : Pattern) : Bool := decide (1 ≤ p.Width ∧ 1 ≤ p.Height ∧ p.Width ≤ 40000 ∧ p.Height ≤ 40000 ∧ p.Width * p.Height ≤ 40000 ∧ (p.Cells.length : Int) = p.Width * p.Height)
theorem form_eq (p : Pattern) : tile_Form p = some (formB p) := by
  unfold tile_Form formB
  by_cases h : 1 ≤ p.Width ∧ 1 ≤ p.Height ∧ p.Width ≤ 40000 ∧ p.Height ≤ 40000
  · have h0 : 0 ≤ p.Width * p.Height := Int.mul_nonneg (by omega) (by omega)
    have h1 : p.Width * p.Height ≤ 40000 * 40000 := Int.mul_le_mul (by omega) (by omega) (by omega) (by omega)
    rw [w64_id (n := p.Width * p.Height) (by omega) (by omega)]
    simp [h]; rfl
  · congr 1
    have : ((((decide (p.Width ≥ 1)) && (decide (p.Height ≥ 1))) && (decide (p.Width ≤ 40000))) && (decide (p.Height ≤ 40000))) = false := by
      cases he : ((((decide (p.Width ≥ 1)) && (decide (p.Height ≥ 1))) && (decide (p.Width ≤ 40000))) && (decide (p.Height ≤ 40000)))
      · rfl
      · simp only [Bool.and_eq_true, decide_eq_true_eq] at he
        exact absurd ⟨he.1.1.1, he.1.1.2, he.1.2, he.2⟩ h
    rw [this]; simp only [Bool.false_and]
    exact (decide_eq_false (fun h' => h ⟨h'.1, h'.2.1, h'.2.2.1, h'.2.2.2.1⟩)).symm
def inSet (n : Nat) (c : Int) : Bool := decide (0 ≤ c ∧ c < (n : Int))
theorem idx_of (set : List Tile) (xs : List Int) (hl : xs.length ≤ 1000000) (k : Nat) (hk : xs.length < k) :
    slices_IndexFunc_int_int_with_tile_of_1.l0 k 0 xs set = some (fin (firstS (fun i a => if inSet set.length a = true then none else some (i : Int)) 0 xs)) := by
  have := scan (F := fun k i => slices_IndexFunc_int_int_with_tile_of_1.l0 k i xs set) (xs := xs) (g := fun i a => if inSet set.length a = true then none else some (i : Int)) (fun k i hi => by
    show slices_IndexFunc_int_int_with_tile_of_1.l0 (k + 1) i xs set = _
    rw [slices_IndexFunc_int_int_with_tile_of_1.l0]
    by_cases h : i < xs.length
    · have h' : (i : Int) < (xs.length : Int) := by omega
      have h2 : 0 ≤ (i : Int) ∧ (i : Int) < (xs.length : Int) := by omega
      rw [dif_pos h, if_pos (by simpa using h'), if_pos h2, rdD_get h, tile_of_1, w64_id (by omega) (by omega)]
      by_cases hb : 0 ≤ xs[i] ∧ xs[i] < (set.length : Int)
      · have h3 : ¬ (xs[i] < 0 ∨ (set.length : Int) ≤ xs[i]) := by omega
        simp [inSet, hb]
        intro hh; exact absurd hh h3
      · have h3 : (xs[i] < 0 ∨ (set.length : Int) ≤ xs[i]) := by omega
        simp [inSet, hb, h3]
    · have h' : ¬ (i : Int) < (xs.length : Int) := by omega
      rw [dif_neg h, if_neg (by simpa using h')]) xs.length k 0 (by simp) hk
  simpa using this
theorem contains_of (set : List Tile) (xs : List Int) (hl : xs.length ≤ 1000000) (k : Nat) (hk : xs.length < k) : slices_ContainsFunc_int_int_with_tile_of_1 k xs set = some (!xs.all (inSet set.length)) := by
  unfold slices_ContainsFunc_int_int_with_tile_of_1 slices_IndexFunc_int_int_with_tile_of_1
  rw [idx_of set xs hl k hk]
  have := firstS_ge' (p := inSet set.length) xs 0
  cases hf : firstS (fun i a => if inSet set.length a = true then none else some (i : Int)) 0 xs <;> rw [hf] at this <;> cases ha : xs.all (inSet set.length) <;> rw [ha] at this <;> simp [fin, sumb] at this ⊢
  · exact this
  · exact this
def ofB (set : List Tile) (p : Pattern) : Bool := validT set && formB p && p.Cells.all (inSet set.length)
theorem formB_len {p : Pattern} (h : formB p = true) : p.Cells.length ≤ 40000 := by
  unfold formB at h
  simp only [decide_eq_true_eq] at h
  omega
theorem of_eq (set : List Tile) (p : Pattern) {k : Nat} (hk : 40001 ≤ k) (hl : set.length ≤ 9223372036854775807) : tile_of k set p = some (ofB set p) := by
  unfold tile_of ofB
  rw [tile_valid set (by omega) hl, Option.bind_some, form_eq]
  cases hv : validT set
  · rfl
  · rw [if_pos rfl]
    cases hf : formB p
    · rfl
    · have := formB_len hf
      rw [Option.bind_some, Option.bind_some, if_pos rfl, contains_of set p.Cells (by omega) k (by omega)]
      simp
def tl (set : List Tile) (p : Pattern) (j : Nat) : Tile := set.getD (p.Cells.getD j 0).toNat z_Tile
def rightB (set : List Tile) (p : Pattern) (W H : Nat) (round : Bool) (i : Nat) : Bool := !(decide (i % W + 1 < W) || round) || (tl set p i).E == (tl set p (i / W * W + (i % W + 1) % W)).W
def upB (set : List Tile) (p : Pattern) (W H : Nat) (round : Bool) (i : Nat) : Bool := !(decide (i / W + 1 < H) || round) || (tl set p i).N == (tl set p ((i / W + 1) % H * W + i % W)).S
structure PForm (set : List Tile) (p : Pattern) (W H : Nat) : Prop where
  w : p.Width = W
  h : p.Height = H
  dW : 1 ≤ W ∧ W ≤ 40000
  dH : 1 ≤ H ∧ H ≤ 40000
  wh : H * W ≤ 40000
  len : p.Cells.length = H * W
  cel : ∀ j, j < H * W → 0 ≤ p.Cells.getD j 0 ∧ p.Cells.getD j 0 < (set.length : Int)
theorem ofB_iff {set : List Tile} {p : Pattern} (h : ofB set p = true) : validT set = true ∧ ∃ W H, PForm set p W H := by
  unfold ofB at h
  simp only [Bool.and_eq_true, List.all_eq_true] at h
  obtain ⟨⟨h1, h2⟩, h3⟩ := h
  refine ⟨h1, p.Width.toNat, p.Height.toNat, ?_⟩
  unfold formB at h2
  simp only [decide_eq_true_eq] at h2
  obtain ⟨a1, a2, a3, a4, a5, a6⟩ := h2
  have e : ((p.Height.toNat * p.Width.toNat : Nat) : Int) = p.Width * p.Height := by rw [Int.natCast_mul, Int.toNat_of_nonneg (by omega), Int.toNat_of_nonneg (by omega), Int.mul_comm]
  refine ⟨by omega, by omega, by omega, by omega, by omega, by omega, fun j hj => ?_⟩
  have hj2 : j < p.Cells.length := by omega
  have := h3 (p.Cells.getD j 0) (by rw [show p.Cells.getD j 0 = p.Cells[j] from by simp [List.getElem?_eq_getElem hj2]]; exact List.getElem_mem _)
  simpa [inSet] using this
theorem PForm.tl {set : List Tile} {p : Pattern} {W H : Nat} (f : PForm set p W H) {j : Nat} (hj : j < H * W) : rdD set (p.Cells.getD j 0) z_Tile = Gp.tl set p j ∧ (0 ≤ p.Cells.getD j 0 ∧ p.Cells.getD j 0 < (set.length : Int)) := ⟨rfl, f.cel j hj⟩
theorem place_lt {W H x y : Nat} (hx : x < W) (hy : y < H) : y * W + x < H * W := by
  have := Nat.mul_le_mul_right W (show y + 1 ≤ H by omega)
  rw [Nat.succ_mul] at this; omega
theorem joins_eq {set : List Tile} {p : Pattern} {W H : Nat} (f : PForm set p W H) (round : Bool) {k : Nat} (hk : 40001 ≤ k) : tile_joins k set p round = some ((List.range (H * W)).all fun i => rightB set p W H round i && upB set p W H round i) := by
  have hwh := f.wh
  have hdW := f.dW
  have hdH := f.dH
  unfold tile_joins
  have := loop_all (F := fun k i (_ : Unit) => tile_joins.l0 k i set p round) (S := fun _ => ()) (b := fun i => rightB set p W H round i && upB set p W H round i) (n := H * W) (K := 0) (r := false) (e := ()) (fun k i _ hi => by
    show tile_joins.l0 (k + 1) i set p round = if (rightB set p W H round i && upB set p W H round i) = true then tile_joins.l0 k ((i + 1 : Nat) : Int) set p round else _
    obtain ⟨y, hyd⟩ : ∃ y, i / W = y := ⟨_, rfl⟩
    obtain ⟨x, hxd⟩ : ∃ x, i % W = x := ⟨_, rfl⟩
    obtain ⟨x2, hx2d⟩ : ∃ x2, (x + 1) % W = x2 := ⟨_, rfl⟩
    obtain ⟨y2, hy2d⟩ : ∃ y2, (y + 1) % H = y2 := ⟨_, rfl⟩
    have hx : x < W := hxd ▸ Nat.mod_lt _ (by omega)
    have hy : y < H := hyd ▸ Nat.div_lt_of_lt_mul (by rw [Nat.mul_comm]; exact hi)
    have hx2 : x2 < W := hx2d ▸ Nat.mod_lt _ (by omega)
    have hy2 : y2 < H := hy2d ▸ Nat.mod_lt _ (by omega)
    have hr := place_lt hx2 hy
    have hu := place_lt hx hy2
    have e1 : Int.tmod (i : Int) (W : Int) = (x : Int) := by rw [← hxd]; rfl
    have e2 : Int.tdiv (i : Int) (W : Int) = (y : Int) := by rw [← hyd]; rfl
    have e3 : w64 ((x : Int) + 1) = ((x + 1 : Nat) : Int) := by rw [w64_id (by omega) (by omega)]; rfl
    have e4 : w64 (y : Int) = (y : Int) := w64_id (by omega) (by omega)
    have e5 : w64 ((y : Int) + 1) = ((y + 1 : Nat) : Int) := by rw [w64_id (by omega) (by omega)]; rfl
    have e6 : Int.tmod ((x + 1 : Nat) : Int) (W : Int) = (x2 : Int) := by rw [← hx2d]; rfl
    have e7 : Int.tmod ((y + 1 : Nat) : Int) (H : Int) = (y2 : Int) := by rw [← hy2d]; rfl
    have e8 : w64 (w64 ((y : Int) * (W : Int)) + (x2 : Int)) = ((y * W + x2 : Nat) : Int) := by
      rw [← Int.natCast_mul, w64_id (n := ((y * W : Nat) : Int)) (by omega) (by omega), w64_id (by omega) (by omega)]; rfl
    have e9 : w64 (w64 ((y2 : Int) * (W : Int)) + (x : Int)) = ((y2 * W + x : Nat) : Int) := by
      rw [← Int.natCast_mul, w64_id (n := ((y2 * W : Nat) : Int)) (by omega) (by omega), w64_id (by omega) (by omega)]; rfl
    have c0 := f.tl hi
    have c1 := f.tl hr
    have c2 := f.tl hu
    have b1 : 0 ≤ ((y * W + x2 : Nat) : Int) ∧ ((y * W + x2 : Nat) : Int) < (p.Cells.length : Int) := by rw [f.len]; omega
    have b2 : 0 ≤ ((y2 * W + x : Nat) : Int) ∧ ((y2 * W + x : Nat) : Int) < (p.Cells.length : Int) := by rw [f.len]; omega
    rw [tile_joins.l0, if_pos (decide_eq_true (by rw [f.len]; exact Int.ofNat_lt.2 hi)), if_pos (by rw [f.len]; omega), f.w, f.h, if_pos (by omega)]
    simp only [e1, e2, e3, e4, e5, e6, e7, e8, e9, rdD_nat, if_pos c0.2, if_pos c1.2, if_pos c2.2, if_pos b1, if_pos b2, c0.1, c1.1, c2.1]
    have g1 : decide (((x + 1 : Nat) : Int) < (W : Int)) = decide (x + 1 < W) := by congr 1; apply propext; omega
    have g2 : decide (((y + 1 : Nat) : Int) < (H : Int)) = decide (y + 1 < H) := by congr 1; apply propext; omega
    have g3 : (H : Int) ≠ 0 := by omega
    rw [g1, g2]
    have e10 : w64 ((i : Int) + 1) = ((i + 1 : Nat) : Int) := by rw [w64_id (by omega) (by omega)]; rfl
    simp only [if_pos g3, e10]
    unfold rightB upB
    rw [hyd, hxd, hx2d, hy2d]
    cases (decide (x + 1 < W) || round) <;> cases (decide (y + 1 < H) || round)
    · simp [sumb]
    · cases hN : ((tl set p i).N == (tl set p (y2 * W + x)).S) <;> simp [sumb, hN, bne]
    · cases hE : ((tl set p i).E == (tl set p (y * W + x2)).W) <;> simp [sumb, hE, bne]
    · cases hE : ((tl set p i).E == (tl set p (y * W + x2)).W) <;> cases hN : ((tl set p i).N == (tl set p (y2 * W + x)).S) <;> simp [sumb, hE, hN, bne]) (fun k => by
    show tile_joins.l0 (k + 1) ((H * W : Nat) : Int) set p round = _
    rw [tile_joins.l0, if_neg (by rw [f.len]; simp)]) k (by omega)
  have h0 : tile_joins.l0 k 0 set p round = some (if ((List.range (H * W)).all fun i => rightB set p W H round i && upB set p W H round i) = true then .inr () else .inl false) := this
  rw [h0]
  cases ((List.range (H * W)).all fun i => rightB set p W H round i && upB set p W H round i) <;> rfl
end Gp
set_option linter.unusedVariables false
set_option linter.unusedSimpArgs false
namespace Gp
open Gw Gq
/-! ### the pictures are patterns of the tiles -/
theorem Val.acts {m : Machine} {S Y : Nat} (v : Val m S Y) {n : Nat} (hn : n < S * Y) (ha : (m.Actions.getD n z_Action).Next ≠ S) : 0 ≤ (m.Actions.getD n z_Action).Write ∧ (m.Actions.getD n z_Action).Write < Y ∧ ((m.Actions.getD n z_Action).Move = 0 ∨ (m.Actions.getD n z_Action).Move = 1) ∧ 0 ≤ (m.Actions.getD n z_Action).Next ∧ (m.Actions.getD n z_Action).Next < S := by
  rcases actB_cases (v.get hn) with h | h
  · exact absurd (by rw [← v.sS]; exact h.1) ha
  · rw [v.sS, v.sY] at h; exact h.2
theorem hd_le {m : Machine} {S Y : Nat} (v : Val m S Y) {q s : Nat} (hq : q < S) (hs : s < Y) : 0 ≤ hd Y q s ∧ hd Y q s < 1000 := by
  have h1 := v.dS; have h2 := v.dY
  have : q * Y ≤ 24 := Nat.mul_le_mul (show q ≤ 6 by omega) h2.2
  unfold hd; omega
theorem inCol_of {c : Int} (h : 0 ≤ c ∧ c < 1000) : inCol c = true := by unfold inCol; exact decide_eq_true h
theorem kind_col {m : Machine} {S Y : Nat} (v : Val m S Y) {i : Nat} {t : Tile} (h : Kind m S Y i t) : colB t = true := by
  have h1 := v.dS; have h2 := v.dY
  unfold colB
  cases h with
  | sym s hs => simp only [symT, Bool.and_eq_true]; exact ⟨⟨⟨inCol_of (by omega), inCol_of (by omega)⟩, inCol_of (by omega)⟩, inCol_of (by omega)⟩
  | act n hn ha =>
    have a := v.acts hn ha
    have hq : n / Y < S := Nat.div_lt_of_lt_mul (by rw [Nat.mul_comm]; exact hn)
    have hs : n % Y < Y := Nat.mod_lt _ (by omega)
    have hh := hd_le v hq hs
    unfold actT
    split
    · simp only [Bool.and_eq_true]; exact ⟨⟨⟨inCol_of (by omega), inCol_of (by omega)⟩, inCol_of hh⟩, inCol_of (by omega)⟩
    · simp only [Bool.and_eq_true]; exact ⟨⟨⟨inCol_of (by omega), inCol_of (by omega)⟩, inCol_of hh⟩, inCol_of (by omega)⟩
  | inn q s hq hs => have hh := hd_le v hq hs; simp only [Bool.and_eq_true]; exact ⟨⟨⟨inCol_of hh, inCol_of (by omega)⟩, inCol_of (by omega)⟩, inCol_of (by omega)⟩
  | out q s hq hs => have hh := hd_le v hq hs; simp only [Bool.and_eq_true]; exact ⟨⟨⟨inCol_of hh, inCol_of (by omega)⟩, inCol_of (by omega)⟩, inCol_of (by omega)⟩
theorem set_valid {m : Machine} {S Y : Nat} (v : Val m S Y) : validT (setS m S Y) = true := by
  unfold validT
  rw [Bool.and_eq_true, decide_eq_true_eq, List.all_eq_true]
  refine ⟨setS_len v, fun i hi => ?_⟩
  have hi : i < (setS m S Y).length := by simpa using hi
  have ht : (setS m S Y).getD i z_Tile = (setS m S Y)[i] := by simp [List.getElem?_eq_getElem hi]
  have hk := set_at (List.getElem?_eq_getElem hi)
  unfold newB
  rw [ht, Bool.and_eq_true]
  refine ⟨?_, kind_col v hk⟩
  simp only [Bool.not_eq_true', decide_eq_false_iff_not]
  intro hm
  obtain ⟨j, hj, he⟩ := List.mem_iff_getElem.1 hm
  rw [List.length_take] at hj
  rw [List.getElem_take] at he
  have hjl : j < (setS m S Y).length := by omega
  have hk2 := set_at (List.getElem?_eq_getElem hjl)
  rw [he] at hk2
  have := set_uniq hk2 hk
  omega
def cfgS (m : Machine) : Nat → Config → Config
  | 0, c => c
  | y + 1, c => cfgS m y (nextC m c)
theorem cfgS_succ (m : Machine) : ∀ (y : Nat) (c : Config), cfgS m (y + 1) c = nextC m (cfgS m y c)
  | 0, c => rfl
  | y + 1, c => by rw [cfgS, cfgS_succ m y (nextC m c)]; rfl
theorem cfgS_len (m : Machine) : ∀ (y : Nat) (c : Config), (cfgS m y c).Cells.length = c.Cells.length
  | 0, c => rfl
  | y + 1, c => by rw [cfgS, cfgS_len m y, next_len]
theorem pic_run {m : Machine} {S Y : Nat} : ∀ (d : Nat) (c : Config), (picS m S Y d c).isSome = decide ((runS m d c).2 = d)
  | 0, c => by simp [picS, runS]
  | d + 1, c => by
    rw [picS, runS]
    by_cases hs : noStep m c = 0
    · rw [if_pos hs, if_pos hs, Option.isSome_map, pic_run d]; simp
    · rw [if_neg hs, if_neg hs]; simp
theorem pic_cells {m : Machine} {S Y : Nat} (v : Val m S Y) : ∀ (d : Nat) (c : Config) (r : List Int), picS m S Y d c = some r → Fit m c → ∀ y, y < d → Fit m (cfgS m y c) ∧ noStep m (cfgS m y c) = 0 ∧ ∀ x, x < c.Cells.length → r.getD (y * c.Cells.length + x) 0 = tileAt m S Y (cfgS m y c) x
  | 0, c, r, _, _, y, hy => by omega
  | d + 1, c, r, hr, h, y, hy => by
    rw [picS] at hr
    by_cases hs : noStep m c = 0
    · rw [if_pos hs] at hr
      cases hp : picS m S Y d (nextC m c) with
      | none => rw [hp] at hr; cases hr
      | some q =>
        rw [hp] at hr
        injection hr with hr
        subst hr
        cases y with
        | zero =>
          refine ⟨h, hs, fun x hx => ?_⟩
          rw [List.getD_eq_getElem?_getD, List.getElem?_append, if_pos (by rw [rowT_len]; omega)]
          unfold rowT cfgS
          rw [Nat.zero_mul, Nat.zero_add, List.getElem?_map, List.getElem?_range hx]; rfl
        | succ y =>
          obtain ⟨h1, h2, h3⟩ := pic_cells v d (nextC m c) q hp (h.next hs) y (by omega)
          refine ⟨h1, h2, fun x hx => ?_⟩
          rw [next_len] at h3
          rw [List.getD_eq_getElem?_getD, List.getElem?_append, if_neg (by rw [rowT_len, Nat.succ_mul]; omega), rowT_len, Nat.succ_mul, show y * c.Cells.length + c.Cells.length + x - c.Cells.length = y * c.Cells.length + x by omega, ← List.getD_eq_getElem?_getD]
          exact h3 x hx
    · rw [if_neg hs] at hr; cases hr
theorem pic_tl {m : Machine} {S Y : Nat} (v : Val m S Y) {d : Nat} {c : Config} {r : List Int} (hr : picS m S Y d c = some r) (h : Fit m c) (w : Int) {y x : Nat} (hy : y < d) (hx : x < c.Cells.length) :
    tl (setS m S Y) ⟨w, (d : Int), r⟩ (y * c.Cells.length + x) = wantT m (cfgS m y c) x ∧ 0 ≤ r.getD (y * c.Cells.length + x) 0 ∧ r.getD (y * c.Cells.length + x) 0 < ((setS m S Y).length : Int) := by
  obtain ⟨h1, h2, h3⟩ := pic_cells v d c r hr h y hy
  obtain ⟨j, hj, hk⟩ := want_kind v h1 h2 (x := x) (by rw [cfgS_len]; exact hx)
  have hg := set_get hk
  have hjl : j < (setS m S Y).length := by
    by_cases hl : j < (setS m S Y).length
    · exact hl
    · rw [List.getElem?_eq_none (by omega)] at hg; cases hg
  have e := h3 x hx
  rw [hj] at e
  unfold tl
  simp only
  rw [e, Int.toNat_natCast, List.getD_eq_getElem?_getD, hg]
  exact ⟨rfl, by omega, by omega⟩
theorem pic_form {m : Machine} {S Y : Nat} (v : Val m S Y) {d : Nat} {c : Config} {r : List Int} (hr : picS m S Y d c = some r) (h : Fit m c) (hd : 1 ≤ d ∧ d ≤ 40000) (hm : d * c.Cells.length ≤ 40000) : PForm (setS m S Y) ⟨c.Cells.length, d, r⟩ c.Cells.length d := by
  have hp := h.place
  refine ⟨rfl, rfl, by omega, hd, hm, picS_len d c r hr, fun j hj => ?_⟩
  have hW : 0 < c.Cells.length := by omega
  have := (pic_tl v hr h 0 (y := j / c.Cells.length) (x := j % c.Cells.length) (Nat.div_lt_of_lt_mul (by rw [Nat.mul_comm]; exact hj)) (Nat.mod_lt _ hW)).2
  rw [Nat.mul_comm, Nat.div_add_mod] at this
  exact this
theorem PForm.of {set : List Tile} {p : Pattern} {W H : Nat} (f : PForm set p W H) (hv : validT set = true) : ofB set p = true := by
  unfold ofB formB
  have h1 := f.dW; have h2 := f.dH; have h3 := f.wh
  have e : p.Width * p.Height = ((H * W : Nat) : Int) := by rw [f.w, f.h, Int.natCast_mul, Int.mul_comm]
  rw [hv, e, f.w, f.h, f.len]
  simp only [Bool.true_and, Bool.and_eq_true, decide_eq_true_eq, List.all_eq_true]
  refine ⟨⟨by omega, by omega, by omega, by omega, by omega, trivial⟩, fun a ha => ?_⟩
  obtain ⟨j, hj, he⟩ := List.mem_iff_getElem.1 ha
  have := f.cel j (by rw [← f.len]; exact hj)
  rw [show p.Cells.getD j 0 = p.Cells[j] from by simp [List.getElem?_eq_getElem hj], he] at this
  unfold inSet; exact decide_eq_true this
theorem fits_eq {set : List Tile} {p : Pattern} {W H : Nat} (f : PForm set p W H) (hv : validT set = true) (hl : set.length ≤ 9223372036854775807) {k : Nat} (hk : 40001 ≤ k) : tile_Fits k set p = some ((List.range (H * W)).all fun i => rightB set p W H false i && upB set p W H false i) := by
  unfold tile_Fits
  rw [of_eq set p hk hl, f.of hv, Option.bind_some, if_pos rfl, joins_eq f false hk]; rfl
theorem pic_fits {m : Machine} {S Y : Nat} (v : Val m S Y) {d : Nat} {c : Config} {r : List Int} (hr : picS m S Y d c = some r) (h : Fit m c) (hd : 1 ≤ d ∧ d ≤ 40000) (hm : d * c.Cells.length ≤ 40000) {k : Nat} (hk : 40001 ≤ k) : tile_Fits k (setS m S Y) ⟨c.Cells.length, d, r⟩ = some true := by
  have hp := h.place
  have hlen := setS_len v
  have hW : 0 < c.Cells.length := by omega
  rw [fits_eq (pic_form v hr h hd hm) (set_valid v) (by omega) hk]
  congr 1
  rw [List.all_eq_true]
  intro i hi
  have hi : i < d * c.Cells.length := by simpa using hi
  have hx : i % c.Cells.length < c.Cells.length := Nat.mod_lt _ hW
  have hy : i / c.Cells.length < d := Nat.div_lt_of_lt_mul (by rw [Nat.mul_comm]; exact hi)
  have e0 := (pic_tl v hr h (c.Cells.length : Int) hy hx).1
  have ei : i / c.Cells.length * c.Cells.length + i % c.Cells.length = i := by rw [Nat.mul_comm, Nat.div_add_mod]
  rw [ei] at e0
  unfold rightB upB
  generalize i / c.Cells.length = y at hy e0 ⊢
  generalize i % c.Cells.length = x at hx e0 ⊢
  rw [e0, Bool.and_eq_true]
  constructor
  · by_cases h1 : x + 1 < c.Cells.length
    · rw [Nat.mod_eq_of_lt h1, (pic_tl v hr h (c.Cells.length : Int) hy h1).1]
      have : (wantT m (cfgS m y c) x).E = (wantT m (cfgS m y c) (x + 1)).W := by
        unfold wantT; simp only; congr 1; omega
      rw [this]; simp
    · simp [h1]
  · by_cases h1 : y + 1 < d
    · rw [Nat.mod_eq_of_lt h1, (pic_tl v hr h (c.Cells.length : Int) h1 hx).1]
      have : (wantT m (cfgS m y c) x).N = (wantT m (cfgS m (y + 1) c) x).S := by
        unfold wantT; simp only; rw [cfgS_succ]
      rw [this]; simp
    · simp [h1]
end Gp
set_option linter.unusedVariables false
set_option linter.unusedSimpArgs false
namespace Gp
open Gw Gq
theorem wf8 {n : Int} (h : (Go.Lit.int .u8 n).wf = true) : 0 ≤ n ∧ n ≤ 255 := by simpa [Go.Lit.wf, Go.IntKind.min, Go.IntKind.max, Go.IntKind.signed, Go.IntKind.bits] using h
theorem Fit.valid {m : Machine} {c : Config} (h : Fit m c) : validB m = true := by
  have := of_fit h
  unfold fitsB at this
  simp only [Bool.and_eq_true] at this
  exact this.1.1
theorem tiles1 {m : Machine} {S Y : Nat} (v : Val m S Y) (hv : validB m = true) {k : Nat} (hk : 30 ≤ k) : machine_Tiles k m = some (setS m S Y, 0) := by
  unfold machine_Tiles
  rw [valid1 m k (by omega), Option.bind_some, hv, if_neg (by simp), kitOf_eq v hk]; rfl
theorem tiles0 {m : Machine} (hv : validB m = false) {k : Nat} (hk : 30 ≤ k) : machine_Tiles k m = some ([], 1) := by
  unfold machine_Tiles
  rw [valid1 m k (by omega), Option.bind_some, hv]; rfl
end Gp
set_option linter.unusedVariables false
set_option linter.unusedSimpArgs false
namespace Gp
open Gw Gq
/-! ### whatever pattern there is, it shows the run -/
theorem runI_inv (Y : Int) (l : List Int) : ∀ i, ((runI Y l i).h = 0 → (runI Y l i).c = l) ∧ ((runI Y l i).h = 1 → ∃ x, x < i ∧ Y ≤ l.getD x 0 ∧ (runI Y l i).q = Int.tdiv (l.getD x 0 - Y) Y ∧ (runI Y l i).a = x ∧ (runI Y l i).c = l.set x (Int.tmod (l.getD x 0 - Y) Y))
  | 0 => ⟨fun _ => rfl, fun h => by simp [runI] at h⟩
  | i + 1 => by
    obtain ⟨h0, h1⟩ := runI_inv Y l i
    rw [runI, stepI]
    by_cases hc : l.getD i 0 < Y
    · rw [if_pos hc]
      refine ⟨h0, fun h => ?_⟩
      obtain ⟨x, hx, hr⟩ := h1 h
      exact ⟨x, by omega, hr⟩
    · rw [if_neg hc]
      refine ⟨fun h => by simp at h, fun h => ?_⟩
      have h : (runI Y l i).h = 0 := by simpa using h
      exact ⟨i, by omega, by omega, rfl, rfl, by simp only; rw [h0 h]⟩
theorem read_inv {m : Machine} {S Y : Nat} (v : Val m S Y) {l : List Int} {c : Config} (h : rdI m (runI Y l l.length) = some c) : Fit m c ∧ colS m c = l := by
  have hY := v.dY
  unfold rdI at h
  split at h
  · rename_i hh
    injection h with h
    have hf := fit_of hh.2
    rw [h] at hf
    refine ⟨hf, ?_⟩
    obtain ⟨x, hx, hge, h1, h2, h3⟩ := (runI_inv Y l l.length).2 hh.1
    subst h
    unfold colS
    simp only [h1, h2, h3, v.sY, Int.toNat_natCast, rdD_nat]
    rw [getD_set, if_pos ⟨rfl, hx⟩, List.set_set]
    have e : (Y : Int) + (l.getD x 0 - Y).tdiv Y * Y + (l.getD x 0 - Y).tmod Y = l.getD x 0 := by
      have := Int.tmod_add_mul_tdiv (l.getD x 0 - Y) Y
      rw [Int.mul_comm] at this
      omega
    rw [e]
    have : l.getD x 0 = l[x] := by simp [List.getElem?_eq_getElem hx]
    rw [this, List.set_getElem_self]
  · cases h
theorem Kind.low {m : Machine} {S Y i : Nat} {t : Tile} (h : Kind m S Y i t) (hs : t.S < (Y : Int)) : (t = symT i ∧ i < Y) ∨ (∃ q s, q < S ∧ s < Y ∧ i = (set1 m S Y (S * Y)).length + 2 * (q * Y + s) ∧ t = ⟨hd Y q s, 0, s, 1 + q⟩) ∨ (∃ q s, q < S ∧ s < Y ∧ i = (set1 m S Y (S * Y)).length + 2 * (q * Y + s) + 1 ∧ t = ⟨hd Y q s, 1 + S + q, s, 0⟩) := by
  cases h with
  | sym s hs' => exact .inl ⟨rfl, hs'⟩
  | act n hn ha => rw [actT_S] at hs; have := hd_ge Y (n / Y) (n % Y); omega
  | inn q s hq hs' => exact .inr (.inl ⟨q, s, hq, hs', rfl, rfl⟩)
  | out q s hq hs' => exact .inr (.inr ⟨q, s, hq, hs', rfl, rfl⟩)
theorem row_only {m : Machine} {S Y : Nat} (v : Val m S Y) {c : Config} (h : Fit m c) (js : Nat → Nat) (ts : Nat → Tile) (hk : ∀ x, x < c.Cells.length → Kind m S Y (js x) (ts x)) (hS : ∀ x, x < c.Cells.length → (ts x).S = (colS m c).getD x 0)
    (hEW : ∀ x, x + 1 < c.Cells.length → (ts x).E = (ts (x + 1)).W) (hW : (ts 0).W = 0) (hE : (ts (c.Cells.length - 1)).E = 0) : noStep m c = 0 ∧ ∀ x, x < c.Cells.length → tileAt m S Y c x = js x ∧ (ts x).N = (colS m (nextC m c)).getD x 0 := by
  have hp := h.place
  have hi := h.idx
  have hm := h.move
  have hsY := v.sY
  have hsS := v.sS
  obtain ⟨A, hA⟩ : ∃ A : Nat, c.At = A := ⟨c.At.toNat, by omega⟩
  have hAl : A < c.Cells.length := by omega
  have hcell : c.Cells.getD A 0 = rdD c.Cells c.At 0 := by rw [hA, rdD_nat]
  obtain ⟨n, hn⟩ : ∃ n : Nat, c.State * m.Symbols + rdD c.Cells c.At 0 = n := ⟨(c.State * m.Symbols + rdD c.Cells c.At 0).toNat, by omega⟩
  have hSA : (ts A).S = ((Y + n : Nat) : Int) := by
    rw [hS A hAl, colS_at h A hAl, if_pos hA.symm, hcell, hsY]
    rw [hsY] at hn; omega
  obtain ⟨n', hn', ha, hj, ht⟩ := (hk A hAl).isact (by omega)
  have hnn : n' = n := by
    have := hSA
    rw [ht, actT_S, hd_div] at this
    omega
  subst hnn
  have hact : m.Actions.getD n' z_Action = actOf m c := by unfold actOf; rw [hn, rdD_nat]
  rw [hact] at ha ht
  have hna := v.acts hn' (by rw [hact]; exact ha)
  rw [hact] at hna
  have hAW : (ts A).W = if (actOf m c).Move = 0 then 1 + S + (actOf m c).Next else 0 := by rw [ht]; unfold actT; split <;> rfl
  have hAE : (ts A).E = if (actOf m c).Move = 0 then 0 else 1 + (actOf m c).Next := by rw [ht]; unfold actT; split <;> rfl
  have hcel : ∀ x, x < c.Cells.length → 0 ≤ c.Cells.getD x 0 ∧ c.Cells.getD x 0 < Y := fun x hx => by
    rw [← hsY]
    exact h.cel _ (by rw [show c.Cells.getD x 0 = c.Cells[x] from by simp [List.getElem?_eq_getElem hx]]; exact List.getElem_mem _)
  have hlow : ∀ x, x < c.Cells.length → x ≠ A → (ts x).S = c.Cells.getD x 0 := fun x hx hxA => by
    rw [hS x hx, colS_at h x hx, if_neg (by omega)]
  have low : ∀ x, x < c.Cells.length → x ≠ A → _ := fun x hx hxA => (hk x hx).low (by rw [hlow x hx hxA]; exact (hcel x hx).2)
  -- a head that comes in from the west comes from the head's place
  have inn_only : ∀ x q s, x < c.Cells.length → x ≠ A → q < S → ts x = ⟨hd Y q s, 0, s, 1 + q⟩ → x = A + 1 ∧ (actOf m c).Move = 1 ∧ (actOf m c).Next = q := by
    intro x q s hx hxA hq e
    have hw : (ts x).W = 1 + q := by rw [e]
    cases x with
    | zero => rw [hW] at hw; omega
    | succ x =>
      have hee := hEW x hx
      rw [hw] at hee
      by_cases hxA2 : x = A
      · subst hxA2
        rw [hAE] at hee
        rcases hm with hm | hm
        · rw [if_pos hm] at hee; omega
        · rw [if_neg (by omega)] at hee; exact ⟨rfl, hm, by omega⟩
      · rcases low x (by omega) hxA2 with ⟨e2, _⟩ | ⟨q2, s2, _, _, _, e2⟩ | ⟨q2, s2, _, _, _, e2⟩
        · rw [e2] at hee; simp only [symT] at hee; omega
        · rw [e2] at hee; simp only at hee; omega
        · rw [e2] at hee; simp only at hee; omega
  have out_only : ∀ x q s, x < c.Cells.length → x ≠ A → q < S → ts x = ⟨hd Y q s, 1 + S + q, s, 0⟩ → x + 1 = A ∧ (actOf m c).Move = 0 ∧ (actOf m c).Next = q := by
    intro x q s hx hxA hq e
    have he : (ts x).E = 1 + S + q := by rw [e]
    by_cases hl : x + 1 < c.Cells.length
    · have hee := hEW x hl
      rw [he] at hee
      by_cases hxA2 : x + 1 = A
      · rw [hxA2, hAW] at hee
        rcases hm with hm | hm
        · rw [if_pos hm] at hee; exact ⟨hxA2, hm, by omega⟩
        · rw [if_neg (by omega)] at hee; omega
      · rcases low (x + 1) hl hxA2 with ⟨e2, _⟩ | ⟨q2, s2, _, _, _, e2⟩ | ⟨q2, s2, _, _, _, e2⟩
        · rw [e2] at hee; simp only [symT] at hee; omega
        · rw [e2] at hee; simp only at hee; omega
        · rw [e2] at hee; simp only at hee; omega
    · have : x = c.Cells.length - 1 := by omega
      rw [this, hE] at he; omega
  have hto : toOf m c = (A : Int) + 2 * (actOf m c).Move - 1 := by unfold toOf; rw [hA]
  have hns : noStep m c = 0 := by
    unfold noStep
    rw [if_neg (by rw [hsS]; exact ha), if_neg]
    rcases hm with hm | hm
    · have : A ≠ 0 := fun e => by
        rw [e] at hAW
        rw [hW, if_pos hm] at hAW; omega
      omega
    · have : A + 1 < c.Cells.length := by
        by_cases hl : A + 1 < c.Cells.length
        · exact hl
        · have e : A = c.Cells.length - 1 := by omega
          rw [← e, hAE, if_neg (by omega)] at hE; omega
      omega
  have hz := noStep_zero hns
  refine ⟨hns, fun x hx => ?_⟩
  have hidx : tileAt m S Y c x = js x := by
    unfold tileAt
    by_cases hxA : x = A
    · subst hxA
      rw [if_pos hA.symm, hn, Int.toNat_natCast, hj]
      unfold doesAt
      rw [if_neg (by rw [hact]; exact ha)]
    · rw [if_neg (by omega)]
      have hsx := hlow x hx hxA
      by_cases hxt : (x : Int) = toOf m c
      · rw [if_pos hxt]
        rcases low x hx hxA with ⟨e2, hl2⟩ | ⟨q2, s2, hq2, hs2, hj2, e2⟩ | ⟨q2, s2, hq2, hs2, hj2, e2⟩
        · exfalso
          rcases hm with hm | hm
          · have hee := hEW x (by omega)
            rw [show x + 1 = A by omega, hAW, if_pos hm, e2] at hee
            simp only [symT] at hee; omega
          · have e3 : x = A + 1 := by omega
            subst e3
            have hee := hEW A hx
            rw [hAE, if_neg (by omega), e2] at hee
            simp only [symT] at hee; omega
        · obtain ⟨_, hm1, hq⟩ := inn_only x q2 s2 hx hxA hq2 e2
          rw [e2] at hsx
          simp only at hsx
          rw [← hsx, hq, hm1, hj2, hsY, ← Int.natCast_mul]; omega
        · obtain ⟨_, hm1, hq⟩ := out_only x q2 s2 hx hxA hq2 e2
          rw [e2] at hsx
          simp only at hsx
          rw [← hsx, hq, hm1, hj2, hsY, ← Int.natCast_mul]; omega
      · rw [if_neg hxt]
        rcases low x hx hxA with ⟨e2, hl2⟩ | ⟨q2, s2, hq2, hs2, hj2, e2⟩ | ⟨q2, s2, hq2, hs2, hj2, e2⟩
        · rw [e2] at hsx
          simp only [symT] at hsx
          exact hsx.symm
        · obtain ⟨h1, h2, _⟩ := inn_only x q2 s2 hx hxA hq2 e2
          omega
        · obtain ⟨h1, h2, _⟩ := out_only x q2 s2 hx hxA hq2 e2
          omega
  refine ⟨hidx, ?_⟩
  obtain ⟨j, hj1, hk1⟩ := want_kind v h hns hx
  have : j = js x := by omega
  subst this
  have g1 := set_get hk1
  have g2 := set_get (hk x hx)
  rw [g1] at g2
  injection g2 with g2
  rw [← g2]; rfl
theorem only_rows {m : Machine} {S Y : Nat} (v : Val m S Y) {p : Pattern} {W H : Nat} (f : PForm (setS m S Y) p W H) (hr : ∀ i, i < H * W → rightB (setS m S Y) p W H false i = true ∧ upB (setS m S Y) p W H false i = true)
    (hw : ∀ y, y < H → (tl (setS m S Y) p (y * W)).W = 0 ∧ (tl (setS m S Y) p (y * W + (W - 1))).E = 0) {c : Config} (h : Fit m c) (hl : c.Cells.length = W) (hs : ∀ x, x < W → (tl (setS m S Y) p x).S = (colS m c).getD x 0) :
    ∀ y, y < H → Fit m (cfgS m y c) ∧ noStep m (cfgS m y c) = 0 ∧ ∀ x, x < W → p.Cells.getD (y * W + x) 0 = tileAt m S Y (cfgS m y c) x ∧ (tl (setS m S Y) p (y * W + x)).N = (colS m (nextC m (cfgS m y c))).getD x 0 := by
  have hdW := f.dW
  have row : ∀ y, y < H → Fit m (cfgS m y c) → (∀ x, x < W → (tl (setS m S Y) p (y * W + x)).S = (colS m (cfgS m y c)).getD x 0) → noStep m (cfgS m y c) = 0 ∧ ∀ x, x < W → p.Cells.getD (y * W + x) 0 = tileAt m S Y (cfgS m y c) x ∧ (tl (setS m S Y) p (y * W + x)).N = (colS m (nextC m (cfgS m y c))).getD x 0 := by
    intro y hy hf hS
    have hlen : (cfgS m y c).Cells.length = W := by rw [cfgS_len]; exact hl
    have := row_only v hf (fun x => (p.Cells.getD (y * W + x) 0).toNat) (fun x => tl (setS m S Y) p (y * W + x)) (fun x hx => by
      rw [hlen] at hx
      have hc := f.cel _ (place_lt hx hy)
      have hlt : (p.Cells.getD (y * W + x) 0).toNat < (setS m S Y).length := by omega
      have e : tl (setS m S Y) p (y * W + x) = (setS m S Y)[(p.Cells.getD (y * W + x) 0).toNat] := by
        unfold tl; rw [List.getD_eq_getElem?_getD, List.getElem?_eq_getElem hlt]; rfl
      rw [e]
      exact set_at (List.getElem?_eq_getElem hlt)) (fun x hx => hS x (by omega)) (fun x hx => by
      rw [hlen] at hx
      have := (hr _ (place_lt (show x < W by omega) hy)).1
      unfold rightB at this
      have e1 : (y * W + x) % W = x := by rw [Nat.mul_comm, Nat.mul_add_mod, Nat.mod_eq_of_lt (by omega)]
      have e2 : (y * W + x) / W = y := by rw [Nat.mul_comm, Nat.mul_add_div (by omega), Nat.div_eq_of_lt (by omega)]; omega
      rw [e1, e2, Nat.mod_eq_of_lt hx] at this
      simpa [hx] using this) (by simpa using (hw y hy).1) (by rw [hlen]; exact (hw y hy).2)
    rw [hlen] at this
    refine ⟨this.1, fun x hx => ⟨?_, (this.2 x hx).2⟩⟩
    have hc := f.cel _ (place_lt hx hy)
    rw [(this.2 x hx).1]; omega
  intro y
  induction y with
  | zero =>
    intro hy
    have := row 0 hy h (fun x hx => by rw [Nat.zero_mul, Nat.zero_add]; exact hs x hx)
    exact ⟨h, this⟩
  | succ y ih =>
    intro hy
    obtain ⟨h1, h2, h3⟩ := ih (by omega)
    have hf : Fit m (cfgS m (y + 1) c) := by rw [cfgS_succ]; exact h1.next h2
    refine ⟨hf, row (y + 1) hy hf (fun x hx => ?_)⟩
    have := (hr _ (place_lt hx (show y < H by omega))).2
    unfold upB at this
    have e1 : (y * W + x) % W = x := by rw [Nat.mul_comm, Nat.mul_add_mod, Nat.mod_eq_of_lt (by omega)]
    have e2 : (y * W + x) / W = y := by rw [Nat.mul_comm, Nat.mul_add_div (by omega), Nat.div_eq_of_lt (by omega)]; omega
    rw [e1, e2, Nat.mod_eq_of_lt hy] at this
    have : (tl (setS m S Y) p (y * W + x)).N = (tl (setS m S Y) p ((y + 1) * W + x)).S := by simpa [hy] using this
    rw [← this, (h3 x hx).2, cfgS_succ]
theorem run_all {m : Machine} : ∀ (d : Nat) (c : Config), (∀ y, y < d → noStep m (cfgS m y c) = 0) → (runS m d c).2 = d
  | 0, c, _ => rfl
  | d + 1, c, h => by
    have h0 : noStep m c = 0 := h 0 (by omega)
    rw [runS, if_pos h0]
    simp only
    rw [run_all d (nextC m c) (fun y hy => h (y + 1) (by omega))]
theorem only_pic {m : Machine} {S Y : Nat} (v : Val m S Y) {p : Pattern} {W H : Nat} (f : PForm (setS m S Y) p W H) {c : Config} (h : Fit m c) (hl : c.Cells.length = W)
    (hrow : ∀ y, y < H → noStep m (cfgS m y c) = 0 ∧ ∀ x, x < W → p.Cells.getD (y * W + x) 0 = tileAt m S Y (cfgS m y c) x) : picS m S Y H c = some p.Cells ∧ (runS m H c).2 = H := by
  have hdW := f.dW
  have hrun := run_all H c (fun y hy => (hrow y hy).1)
  have hpr := pic_run (m := m) (S := S) (Y := Y) H c
  refine ⟨?_, hrun⟩
  cases hp : picS m S Y H c with
  | none => rw [hp, hrun] at hpr; simp at hpr
  | some r =>
    congr 1
    have hlen := picS_len H c r hp
    apply List.ext_getElem (by rw [hlen, hl, f.len])
    intro i h1 h2
    have hi : i < H * W := by rw [← f.len]; exact h2
    have hx : i % W < W := Nat.mod_lt _ (by omega)
    have hy : i / W < H := Nat.div_lt_of_lt_mul (by rw [Nat.mul_comm]; exact hi)
    have ei : i / W * W + i % W = i := by rw [Nat.mul_comm, Nat.div_add_mod]
    have a := (pic_cells v H c r hp h _ hy).2.2 (i % W) (by omega)
    have b := (hrow _ hy).2 (i % W) hx
    rw [hl, ei] at a
    rw [ei] at b
    rw [← b] at a
    rw [List.getD_eq_getElem?_getD, List.getElem?_eq_getElem h1, List.getD_eq_getElem?_getD, List.getElem?_eq_getElem h2] at a
    exact a
end Gp
set_option linter.unusedVariables false
set_option linter.unusedSimpArgs false
namespace Gp
open Gw Gq
def southS (set : List Tile) (p : Pattern) (i : Nat) : List Int := (List.range i).map fun x => (tl set p x).S
def endB (set : List Tile) (p : Pattern) (W y : Nat) : Bool := (tl set p (y * W)).W == 0 && (tl set p (y * W + (W - 1))).E == 0
theorem southS_len (set : List Tile) (p : Pattern) (i : Nat) : (southS set p i).length = i := by simp [southS]
theorem southS_get (set : List Tile) (p : Pattern) {i x : Nat} (hx : x < i) : (southS set p i).getD x 0 = (tl set p x).S := by
  unfold southS
  rw [List.getD_eq_getElem?_getD, List.getElem?_map, List.getElem?_range hx]; rfl
theorem kind_ok {m : Machine} {S Y : Nat} (v : Val m S Y) {i : Nat} {t : Tile} (h : Kind m S Y i t) : 0 ≤ t.S ∧ t.S < 1000 := by
  have := kind_col v h
  unfold colB inCol at this
  simp only [Bool.and_eq_true, decide_eq_true_eq] at this
  exact this.1.2
end Gp
set_option linter.unusedVariables false
set_option linter.unusedSimpArgs false
namespace Gq
theorem all_mul (b : Nat → Bool) (W : Nat) : ∀ H, (List.range (H * W)).all b = (List.range H).all fun y => (List.range W).all fun x => b (y * W + x)
  | 0 => by simp
  | H + 1 => by
    rw [Nat.succ_mul, List.range_add, List.all_append, all_mul b W H, List.range_succ, List.all_append, List.all_map]
    simp [Function.comp_def]
end Gq
namespace Gp
open Gw Gq
/-! ### the patterns of the statements' own reference -/
theorem topof_l1 {set : List Tile} {i : Nat} (hi : i < set.length) (hl : set.length ≤ 1000) {k : Nat} (hk : i < k) : top_of.l1 k 0 set i = some (if decide (set.getD i z_Tile ∈ set.take i) = true then .inl false else .inr ()) := by
  have := loop_all (F := fun k j (_ : Unit) => top_of.l1 k j set i) (S := fun _ => ()) (b := fun j => !decide (set.getD j z_Tile = set.getD i z_Tile)) (n := i) (K := 0) (r := false) (e := ()) (fun k j _ hj => by
    show top_of.l1 (k + 1) j set i = if (!decide (set.getD j z_Tile = set.getD i z_Tile)) = true then top_of.l1 k ((j + 1 : Nat) : Int) set i else _
    rw [top_of.l1, if_pos (by simpa using hj), if_pos (by omega), rdD_nat, rdD_nat, w64_id (by omega) (by omega)]
    generalize set.getD j z_Tile = a
    generalize set.getD i z_Tile = b
    by_cases h : a = b
    · subst h; simp
    · have : ((a.N == b.N) && ((a.E == b.E) && ((a.S == b.S) && (a.W == b.W)))) = false := by
        cases hc : ((a.N == b.N) && ((a.E == b.E) && ((a.S == b.S) && (a.W == b.W))))
        · rfl
        · simp only [Bool.and_eq_true, beq_iff_eq] at hc
          exact absurd (Tile.ext' hc.1 hc.2.1 hc.2.2.1 hc.2.2.2) h
      rw [this, decide_eq_false h]; rfl) (fun k => by
    show top_of.l1 (k + 1) i set i = _
    rw [top_of.l1, if_neg (by simp)]) k (by omega)
  have h0 : top_of.l1 k 0 set i = some (if (List.range i).all (fun j => !decide (set.getD j z_Tile = set.getD i z_Tile)) = true then .inr () else .inl false) := this
  rw [h0]
  have e : (List.range i).all (fun j => !decide (set.getD j z_Tile = set.getD i z_Tile)) = !decide (set.getD i z_Tile ∈ set.take i) := by
    by_cases hm : set.getD i z_Tile ∈ set.take i
    · rw [decide_eq_true hm]
      obtain ⟨j, hj, he⟩ := List.mem_iff_getElem.1 hm
      rw [List.length_take] at hj
      rw [List.getElem_take] at he
      cases ha : (List.range i).all (fun j => !decide (set.getD j z_Tile = set.getD i z_Tile))
      · rfl
      · have := List.all_eq_true.1 ha j (by simp; omega)
        have hg : set.getD j z_Tile = set[j] := by simp [List.getElem?_eq_getElem (show j < set.length by omega)]
        rw [hg, he] at this
        simp at this
    · rw [decide_eq_false hm]
      simp only [Bool.not_false, List.all_eq_true, List.mem_range]
      intro j hj
      have hg : set.getD j z_Tile = set[j] := by simp [List.getElem?_eq_getElem (show j < set.length by omega)]
      have : set.getD j z_Tile ≠ set.getD i z_Tile := fun he => hm (by
        rw [← he, hg]
        exact List.mem_iff_getElem.2 ⟨j, by rw [List.length_take]; omega, by rw [List.getElem_take]⟩)
      simpa using this
  rw [e]
  cases decide (set.getD i z_Tile ∈ set.take i) <;> rfl
theorem topof_l0 {set : List Tile} (hl : set.length ≤ 1000) {k : Nat} (hk : 2001 < k) : top_of.l0 k 0 set = some (if (List.range set.length).all (newB set) = true then .inr () else .inl false) := by
  have := loop_all (F := fun k i (_ : Unit) => top_of.l0 k i set) (S := fun _ => ()) (b := newB set) (n := set.length) (K := 1001) (r := false) (e := ()) (fun k i hk hi => by
    show top_of.l0 (k + 1) i set = if newB set i = true then top_of.l0 k ((i + 1 : Nat) : Int) set else _
    rw [top_of.l0, if_pos (by simpa using hi), if_pos (by omega), rdD_nat]
    have hc : ((((((((decide ((set.getD i z_Tile).N < 0)) || (decide ((set.getD i z_Tile).E < 0))) || (decide ((set.getD i z_Tile).S < 0))) || (decide ((set.getD i z_Tile).W < 0))) || (decide ((set.getD i z_Tile).N ≥ 1000))) || (decide ((set.getD i z_Tile).E ≥ 1000))) || (decide ((set.getD i z_Tile).S ≥ 1000))) || (decide ((set.getD i z_Tile).W ≥ 1000))) = !colB (set.getD i z_Tile) := by
      generalize set.getD i z_Tile = t
      cases hcb : colB t
      · unfold colB inCol at hcb
        simp only [Bool.not_false, Bool.or_eq_true, decide_eq_true_eq]
        apply Classical.byContradiction
        intro hn
        simp only [not_or] at hn
        have : (decide (0 ≤ t.N ∧ t.N < 1000) && decide (0 ≤ t.E ∧ t.E < 1000) && decide (0 ≤ t.S ∧ t.S < 1000) && decide (0 ≤ t.W ∧ t.W < 1000)) = true := by
          simp only [Bool.and_eq_true, decide_eq_true_eq]; omega
        rw [this] at hcb; cases hcb
      · unfold colB inCol at hcb
        simp only [Bool.and_eq_true, decide_eq_true_eq] at hcb
        simp only [Bool.not_true, Bool.or_eq_false_iff, decide_eq_false_iff_not]
        omega
    rw [hc, topof_l1 hi hl (by omega), w64_id (by omega) (by omega)]
    unfold newB
    cases colB (set.getD i z_Tile)
    · simp
    · cases decide (set.getD i z_Tile ∈ set.take i) <;> simp [sumb]) (fun k => by
    show top_of.l0 (k + 1) set.length set = _
    rw [top_of.l0, if_neg (by simp)]) k (by omega)
  exact this
theorem topof_l2 {set : List Tile} {p : Pattern} (hl : p.Cells.length ≤ 1000000) {k : Nat} (hk : p.Cells.length < k) : top_of.l2 k 0 set p = some (if p.Cells.all (inSet set.length) = true then .inr () else .inl false) := by
  have := loop_all (F := fun k i (_ : Unit) => top_of.l2 k i set p) (S := fun _ => ()) (b := fun i => inSet set.length (p.Cells.getD i 0)) (n := p.Cells.length) (K := 0) (r := false) (e := ()) (fun k i hk hi => by
    show top_of.l2 (k + 1) i set p = if inSet set.length (p.Cells.getD i 0) = true then top_of.l2 k ((i + 1 : Nat) : Int) set p else _
    rw [top_of.l2, if_pos (by simpa using hi), if_pos (by omega), rdD_nat, w64_id (by omega) (by omega)]
    unfold inSet
    by_cases h : 0 ≤ p.Cells.getD i 0 ∧ p.Cells.getD i 0 < (set.length : Int)
    · rw [decide_eq_true h, if_neg (by simp only [Bool.or_eq_true, decide_eq_true_eq]; omega)]; rfl
    · rw [decide_eq_false h, if_pos (by simp only [Bool.or_eq_true, decide_eq_true_eq]; omega)]; rfl) (fun k => by
    show top_of.l2 (k + 1) p.Cells.length set p = _
    rw [top_of.l2, if_neg (by simp)]) k (by omega)
  have h0 : top_of.l2 k 0 set p = some (if (List.range p.Cells.length).all (fun i => inSet set.length (p.Cells.getD i 0)) = true then .inr () else .inl false) := this
  rw [h0]
  have e : (List.range p.Cells.length).all (fun i => inSet set.length (p.Cells.getD i 0)) = p.Cells.all (inSet set.length) := by
    rw [Bool.eq_iff_iff, List.all_eq_true, List.all_eq_true]
    constructor
    · intro h a ha
      obtain ⟨j, hj, he⟩ := List.mem_iff_getElem.1 ha
      have := h j (by simpa using hj)
      rwa [show p.Cells.getD j 0 = p.Cells[j] from by simp [List.getElem?_eq_getElem hj], he] at this
    · intro h i hi
      have hi : i < p.Cells.length := by simpa using hi
      rw [show p.Cells.getD i 0 = p.Cells[i] from by simp [List.getElem?_eq_getElem hi]]
      exact h _ (List.getElem_mem hi)
  rw [e]
theorem topof_l4 {set : List Tile} {p : Pattern} {W H : Nat} (f : PForm set p W H) (round : Bool) {y : Nat} (hy : y < H) {k : Nat} (hk : W < k) :
    top_of.l4 k 0 set p round y = some (if (List.range W).all (fun x => rightB set p W H round (y * W + x) && upB set p W H round (y * W + x)) = true then .inr () else .inl false) := by
  have hwh := f.wh
  have hdW := f.dW
  have hdH := f.dH
  have := loop_all (F := fun k x (_ : Unit) => top_of.l4 k x set p round y) (S := fun _ => ()) (b := fun x => rightB set p W H round (y * W + x) && upB set p W H round (y * W + x)) (n := W) (K := 0) (r := false) (e := ()) (fun k x hk hx => by
    show top_of.l4 (k + 1) x set p round y = if (rightB set p W H round (y * W + x) && upB set p W H round (y * W + x)) = true then top_of.l4 k ((x + 1 : Nat) : Int) set p round y else _
    have q1 : (y * W + x) % W = x := by rw [Nat.mul_comm, Nat.mul_add_mod, Nat.mod_eq_of_lt hx]
    have q2 : (y * W + x) / W = y := by rw [Nat.mul_comm, Nat.mul_add_div (by omega), Nat.div_eq_of_lt hx]; omega
    obtain ⟨x2, hx2d⟩ : ∃ x2, (x + 1) % W = x2 := ⟨_, rfl⟩
    obtain ⟨y2, hy2d⟩ : ∃ y2, (y + 1) % H = y2 := ⟨_, rfl⟩
    have hx2 : x2 < W := hx2d ▸ Nat.mod_lt _ (by omega)
    have hy2 : y2 < H := hy2d ▸ Nat.mod_lt _ (by omega)
    have hi := place_lt hx hy
    have hr := place_lt hx2 hy
    have hu := place_lt hx hy2
    have e3 : w64 ((x : Int) + 1) = ((x + 1 : Nat) : Int) := by rw [w64_id (by omega) (by omega)]; rfl
    have e5 : w64 ((y : Int) + 1) = ((y + 1 : Nat) : Int) := by rw [w64_id (by omega) (by omega)]; rfl
    have e6 : Int.tmod ((x + 1 : Nat) : Int) (W : Int) = (x2 : Int) := by rw [← hx2d]; rfl
    have e7 : Int.tmod ((y + 1 : Nat) : Int) (H : Int) = (y2 : Int) := by rw [← hy2d]; rfl
    have e1 : w64 (w64 ((y : Int) * (W : Int)) + (x : Int)) = ((y * W + x : Nat) : Int) := by
      rw [← Int.natCast_mul, w64_id (n := ((y * W : Nat) : Int)) (by omega) (by omega), w64_id (by omega) (by omega)]; rfl
    have e8 : w64 (w64 ((y : Int) * (W : Int)) + (x2 : Int)) = ((y * W + x2 : Nat) : Int) := by
      rw [← Int.natCast_mul, w64_id (n := ((y * W : Nat) : Int)) (by omega) (by omega), w64_id (by omega) (by omega)]; rfl
    have e9 : w64 (w64 ((y2 : Int) * (W : Int)) + (x : Int)) = ((y2 * W + x : Nat) : Int) := by
      rw [← Int.natCast_mul, w64_id (n := ((y2 * W : Nat) : Int)) (by omega) (by omega), w64_id (by omega) (by omega)]; rfl
    have c0 := f.tl hi
    have c1 := f.tl hr
    have c2 := f.tl hu
    have b0 : 0 ≤ ((y * W + x : Nat) : Int) ∧ ((y * W + x : Nat) : Int) < (p.Cells.length : Int) := by rw [f.len]; omega
    have b1 : 0 ≤ ((y * W + x2 : Nat) : Int) ∧ ((y * W + x2 : Nat) : Int) < (p.Cells.length : Int) := by rw [f.len]; omega
    have b2 : 0 ≤ ((y2 * W + x : Nat) : Int) ∧ ((y2 * W + x : Nat) : Int) < (p.Cells.length : Int) := by rw [f.len]; omega
    have g0 : (W : Int) ≠ 0 := by omega
    have g3 : (H : Int) ≠ 0 := by omega
    rw [top_of.l4, f.w, f.h, if_pos (by simpa using hx)]
    simp only [e1, e3, e5, e6, e7, e8, e9, rdD_nat, if_pos b0, if_pos b1, if_pos b2, if_pos c0.2, if_pos c1.2, if_pos c2.2, if_pos g0, if_pos g3, c0.1, c1.1, c2.1]
    unfold rightB upB
    rw [q1, q2, hx2d, hy2d]
    have g1 : decide (((x + 1 : Nat) : Int) < (W : Int)) = decide (x + 1 < W) := by congr 1; apply propext; omega
    have g2 : decide (((y + 1 : Nat) : Int) < (H : Int)) = decide (y + 1 < H) := by congr 1; apply propext; omega
    rw [g1, g2]
    cases round
    · cases decide (x + 1 < W)
      · cases decide (y + 1 < H)
        · simp
        · cases hN : ((tl set p (y * W + x)).N == (tl set p (y2 * W + x)).S) <;> simp [hN, bne]
      · cases hE : ((tl set p (y * W + x)).E == (tl set p (y * W + x2)).W)
        · simp [hE, bne]
        · cases decide (y + 1 < H)
          · simp [hE, bne]
          · cases hN : ((tl set p (y * W + x)).N == (tl set p (y2 * W + x)).S) <;> simp [hE, hN, bne]
    · cases hE : ((tl set p (y * W + x)).E == (tl set p (y * W + x2)).W)
      · simp [hE, bne]
      · cases hN : ((tl set p (y * W + x)).N == (tl set p (y2 * W + x)).S) <;> simp [hE, hN, bne]) (fun k => by
    show top_of.l4 (k + 1) W set p round y = _
    rw [top_of.l4, f.w, if_neg (by simp)]) k (by omega)
  exact this
theorem topof_l3 {set : List Tile} {p : Pattern} {W H : Nat} (f : PForm set p W H) (round : Bool) {k : Nat} (hk : H + 40001 < k) :
    top_of.l3 k 0 set p round = some (if (List.range (H * W)).all (fun i => rightB set p W H round i && upB set p W H round i) = true then .inr () else .inl false) := by
  have hdW := f.dW
  have hdH := f.dH
  have := loop_all (F := fun k y (_ : Unit) => top_of.l3 k y set p round) (S := fun _ => ()) (b := fun y => (List.range W).all (fun x => rightB set p W H round (y * W + x) && upB set p W H round (y * W + x))) (n := H) (K := 40001) (r := false) (e := ()) (fun k y hk hy => by
    show top_of.l3 (k + 1) y set p round = if ((List.range W).all (fun x => rightB set p W H round (y * W + x) && upB set p W H round (y * W + x))) = true then top_of.l3 k ((y + 1 : Nat) : Int) set p round else _
    rw [top_of.l3, f.h, if_pos (by simpa using hy), topof_l4 f round hy (by omega), w64_id (by omega) (by omega), Option.bind_some]
    cases (List.range W).all (fun x => rightB set p W H round (y * W + x) && upB set p W H round (y * W + x)) <;> rfl) (fun k => by
    show top_of.l3 (k + 1) H set p round = _
    rw [top_of.l3, f.h, if_neg (by simp)]) k (by omega)
  rw [all_mul]
  exact this
theorem top_of_no {set : List Tile} {p : Pattern} (h : ofB set p = false) (round : Bool) (hl : set.length ≤ 9223372036854775807) {k : Nat} (hk : 80002 < k) : top_of k set p round = some false := by
  unfold top_of
  by_cases hc : (set.length : Int) ≤ 1000 ∧ 1 ≤ p.Width ∧ 1 ≤ p.Height ∧ p.Width ≤ 40000 ∧ p.Height ≤ 40000 ∧ p.Width * p.Height ≤ 40000 ∧ (p.Cells.length : Int) = p.Width * p.Height
  · have h0 : 0 ≤ p.Width * p.Height := Int.mul_nonneg (by omega) (by omega)
    rw [w64_id (n := p.Width * p.Height) (by omega) (by omega)]
    have hf : formB p = true := by unfold formB; exact decide_eq_true hc.2
    rw [if_neg (by simp; omega), topof_l0 (by omega) (by omega), Option.bind_some]
    unfold ofB validT at h
    rw [hf, decide_eq_true (by omega), Bool.true_and] at h
    cases hv : (List.range set.length).all (newB set)
    · rfl
    · rw [hv] at h
      simp only [sumb, if_true]
      rw [topof_l2 (by omega) (by omega), Option.bind_some]
      rw [show p.Cells.all (inSet set.length) = false from by simpa using h]; rfl
  · rw [if_pos]
    refine Classical.byContradiction fun hn => hc ?_
    simp only [Bool.or_eq_true, decide_eq_true_eq, not_or, bne_iff_ne, ne_eq, Decidable.not_not] at hn
    obtain ⟨⟨⟨⟨⟨⟨n1, n2⟩, n3⟩, n4⟩, n5⟩, n6⟩, n7⟩ := hn
    have h0 : 0 ≤ p.Width * p.Height := Int.mul_nonneg (by omega) (by omega)
    have h9 : p.Width * p.Height ≤ 40000 * 40000 := Int.mul_le_mul (by omega) (by omega) (by omega) (by omega)
    rw [w64_id (n := p.Width * p.Height) (by omega) (by omega)] at n6 n7
    omega
theorem top_of_eq {set : List Tile} {p : Pattern} {W H : Nat} (f : PForm set p W H) (hv : validT set = true) (round : Bool) {k : Nat} (hk : 80002 < k) : top_of k set p round = some ((List.range (H * W)).all fun i => rightB set p W H round i && upB set p W H round i) := by
  have hdW := f.dW
  have hdH := f.dH
  have hwh := f.wh
  have e : p.Width * p.Height = ((H * W : Nat) : Int) := by rw [f.w, f.h, Int.natCast_mul, Int.mul_comm]
  have hv2 := hv
  unfold validT at hv2
  simp only [Bool.and_eq_true, decide_eq_true_eq] at hv2
  have hall : p.Cells.all (inSet set.length) = true := by
    have := f.of hv
    unfold ofB at this
    simp only [Bool.and_eq_true] at this
    exact this.2
  unfold top_of
  rw [e, w64_id (n := ((H * W : Nat) : Int)) (by omega) (by omega), f.w, f.h, f.len, if_neg (by simp; omega), topof_l0 hv2.1 (by omega), hv2.2, Option.bind_some]
  simp only [sumb, if_true]
  rw [topof_l2 (by rw [f.len]; omega) (by rw [f.len]; omega), hall, Option.bind_some]
  simp only [sumb, if_true]
  rw [topof_l3 f round (by omega), Option.bind_some]
  cases (List.range (H * W)).all (fun i => rightB set p W H round i && upB set p W H round i) <;> rfl
end Gp
set_option linter.unusedVariables false
set_option linter.unusedSimpArgs false
namespace Gp
open Gw Gq
theorem steps_ok (k : Nat) : top_steps (k + 60) = some true := by kernel_rfl
theorem lives_ok (k : Nat) : top_lives (k + 60) = some true := by kernel_rfl
theorem pic_joins {m : Machine} {S Y : Nat} (v : Val m S Y) {d : Nat} {c : Config} {r : List Int} (hr : picS m S Y d c = some r) (h : Fit m c) (hd : 1 ≤ d ∧ d ≤ 40000) (hm : d * c.Cells.length ≤ 40000) :
    ((List.range (d * c.Cells.length)).all fun i => rightB (setS m S Y) ⟨c.Cells.length, d, r⟩ c.Cells.length d false i && upB (setS m S Y) ⟨c.Cells.length, d, r⟩ c.Cells.length d false i) = true := by
  have hlen := setS_len v
  have := pic_fits v hr h hd hm (k := 50000) (by omega)
  rw [fits_eq (pic_form v hr h hd hm) (set_valid v) (by omega) (by omega)] at this
  injection this
theorem colour_top {m : Machine} {c : Config} (h : Fit m c) {x : Nat} (hx : x < c.Cells.length) : top_colour m c x = some ((colS m c).getD x 0) := by
  have hp := h.place
  have hi := h.idx
  have hd := h.dim
  have hc := h.cell
  rw [colS_at h x hx]
  unfold top_colour
  have b : 0 ≤ (x : Int) ∧ (x : Int) < (c.Cells.length : Int) := by omega
  simp only [if_pos b, rdD_nat]
  by_cases he : (x : Int) = c.At
  · rw [if_pos (by simpa using he), if_pos he]
    have : c.Cells.getD x 0 = rdD c.Cells c.At 0 := by rw [← he, rdD_nat]
    rw [this, w64_id (n := c.State * m.Symbols) (by omega) (by omega), w64_id (n := m.Symbols + c.State * m.Symbols) (by omega) (by omega), w64_id (by omega) (by omega)]
  · rw [if_neg (by simpa using he), if_neg he]
theorem after_eq {m : Machine} {c : Config} (h : Fit m c) : top_after m c = some (if noStep m c = 0 then (nextC m c, true) else (c, false)) := by
  have hp := h.place
  have hi := h.idx
  have hm := h.move
  have hw := h.widx
  unfold top_after
  rw [hw, if_pos (by omega), if_pos ⟨hi.1, hi.2.1⟩]
  rw [show rdD m.Actions (c.State * m.Symbols + rdD c.Cells c.At 0) z_Action = actOf m c from rfl]
  have hto : (if ((actOf m c).Move == 1) = true then some (w64 (c.At + 1)) else some (w64 (c.At - 1))) = some (toOf m c) := by
    unfold toOf
    rcases hm with hm | hm
    · rw [hm, if_neg (by simp), w64_id (by omega) (by omega)]; congr 1; omega
    · rw [hm, if_pos (by simp), w64_id (by omega) (by omega)]; congr 1; omega
  rw [hto, Option.bind_some]
  unfold noStep
  by_cases h1 : (actOf m c).Next = m.States
  · rw [if_pos (by simp [h1]), if_pos h1, if_neg (by decide)]
  · by_cases h2 : toOf m c < 0 ∨ (c.Cells.length : Int) ≤ toOf m c
    · rw [if_pos (by simp only [Bool.or_eq_true, decide_eq_true_eq]; omega), if_neg h1, if_pos h2, if_neg (by decide)]
    · rw [if_neg (by simp only [Bool.or_eq_true, decide_eq_true_eq, beq_iff_eq]; omega), if_neg h1, if_neg h2, if_pos rfl, if_pos (by simp; omega), Option.bind_some]
      simp only [List.nil_append]
      rw [if_pos (by omega)]; rfl
theorem top_l0 {m : Machine} {a : Int} {h : Nat} (ha : w64 (a + 1) = (h : Int)) (hh : h ≤ 1000000) : ∀ (d k : Nat) (i : Nat) (c : Config), i + d = h → d < k → Fit m c →
    top_TopMachine.l0 k (i : Int) c.State c.At c.Cells m a = some (((i + (runS m d c).2 : Nat) : Int), (runS m d c).1.State, (runS m d c).1.At, (runS m d c).1.Cells)
  | 0, k, i, c, hd, hk, hf => by
    obtain ⟨k, rfl⟩ : ∃ m, k = m + 1 := ⟨k - 1, by omega⟩
    rw [top_TopMachine.l0, ha, if_neg (by simp; omega)]; rfl
  | d + 1, k, i, c, hd, hk, hf => by
    obtain ⟨k, rfl⟩ : ∃ m, k = m + 1 := ⟨k - 1, by omega⟩
    rw [top_TopMachine.l0, ha, if_pos (by simp; omega), show (Config.mk c.State c.At c.Cells) = c from rfl, after_eq hf, Option.bind_some, runS]
    by_cases hs : noStep m c = 0
    · rw [if_pos hs, if_pos hs]
      simp only [Bool.not_true, Bool.false_eq_true, if_false]
      rw [w64_id (by omega) (by omega), show (i : Int) + 1 = ((i + 1 : Nat) : Int) from rfl, top_l0 ha hh d k (i + 1) (nextC m c) (by omega) (by omega) (hf.next hs)]
      congr 2
      omega
    · rw [if_neg hs, if_neg hs]; rfl
theorem shows_l0 {m : Machine} {set : List Tile} {p : Pattern} {W H : Nat} (f : PForm set p W H) {c : Config} (h : Fit m c) (hl : c.Cells.length = W) {k : Nat} (hk : W < k) :
    top_shows.l0 k 0 set m c p = some (if (List.range W).all (fun x => (tl set p x).S == (colS m c).getD x 0) = true then .inr () else .inl false) := by
  have hdW := f.dW
  have hdH := f.dH
  have := loop_all (F := fun k x (_ : Unit) => top_shows.l0 k x set m c p) (S := fun _ => ()) (b := fun x => (tl set p x).S == (colS m c).getD x 0) (n := W) (K := 0) (r := false) (e := ()) (fun k x _ hx => by
    show top_shows.l0 (k + 1) x set m c p = if ((tl set p x).S == (colS m c).getD x 0) = true then top_shows.l0 k ((x + 1 : Nat) : Int) set m c p else _
    have hlt : x < H * W := by have := place_lt hx (show 0 < H by omega); omega
    have c0 := f.tl hlt
    rw [top_shows.l0, f.w, if_pos (by simpa using hx), if_pos (by rw [f.len]; omega)]
    simp only [rdD_nat]
    rw [if_pos c0.2, c0.1, colour_top h (by omega), Option.bind_some, w64_id (by omega) (by omega)]
    cases hS : ((tl set p x).S == (colS m c).getD x 0)
    · simp only [bne, hS, Bool.not_false, if_true, Bool.false_eq_true, if_false]
    · simp only [bne, hS, Bool.not_true, if_true, Bool.false_eq_true, if_false]; rfl) (fun k => by
    show top_shows.l0 (k + 1) W set m c p = _
    rw [top_shows.l0, f.w, if_neg (by simp)]) k (by omega)
  exact this
theorem shows_l1 {set : List Tile} {p : Pattern} {W H : Nat} (f : PForm set p W H) {k : Nat} (hk : H < k) : top_shows.l1 k 0 set p = some (if (List.range H).all (endB set p W) = true then .inr () else .inl false) := by
  have hdW := f.dW
  have hdH := f.dH
  have hwh := f.wh
  have := loop_all (F := fun k i (_ : Unit) => top_shows.l1 k i set p) (S := fun _ => ()) (b := endB set p W) (n := H) (K := 0) (r := false) (e := ()) (fun k y _ hy => by
    show top_shows.l1 (k + 1) y set p = if endB set p W y = true then top_shows.l1 k ((y + 1 : Nat) : Int) set p else _
    have p1 := place_lt (show 0 < W by omega) hy
    have p2 := place_lt (show W - 1 < W by omega) hy
    rw [Nat.add_zero] at p1
    have c1 := f.tl p1
    have c2 := f.tl p2
    have e1 : w64 ((y : Int) * (W : Int)) = ((y * W : Nat) : Int) := by rw [← Int.natCast_mul, w64_id (by omega) (by omega)]
    have e2 : w64 (w64 (w64 ((y : Int) + 1) * (W : Int)) - 1) = ((y * W + (W - 1) : Nat) : Int) := by
      rw [w64_id (n := (y : Int) + 1) (by omega) (by omega), Int.add_mul, Int.one_mul, ← Int.natCast_mul, w64_id (n := ((y * W : Nat) : Int) + (W : Int)) (by omega) (by omega), w64_id (by omega) (by omega)]; omega
    rw [top_shows.l1, f.h, f.w, if_pos (by simpa using hy)]
    simp only [e1, e2, rdD_nat, if_pos c1.2, if_pos c2.2, c1.1, c2.1]
    rw [if_pos (by rw [f.len]; omega)]
    have b2 : 0 ≤ ((y * W + (W - 1) : Nat) : Int) ∧ ((y * W + (W - 1) : Nat) : Int) < (p.Cells.length : Int) := by rw [f.len]; omega
    simp only [if_pos b2]
    rw [w64_id (n := (y : Int) + 1) (by omega) (by omega)]
    unfold endB
    cases h1 : ((tl set p (y * W)).W == 0)
    · simp [bne, h1]
    · cases h2 : ((tl set p (y * W + (W - 1))).E == 0)
      · simp [bne, h1, h2]
      · simp [bne, h1, h2]) (fun k => by
    show top_shows.l1 (k + 1) H set p = _
    rw [top_shows.l1, f.h, if_neg (by simp)]) k (by omega)
  exact this
def showsB (set : List Tile) (m : Machine) (c : Config) (p : Pattern) (W H : Nat) : Bool := decide (c.Cells.length = W) && (List.range W).all (fun x => (tl set p x).S == (colS m c).getD x 0) && (List.range H).all (endB set p W)
theorem shows_eq {m : Machine} {set : List Tile} {p : Pattern} {W H : Nat} (f : PForm set p W H) {c : Config} (h : Fit m c) {k : Nat} (hk : 40001 < k) : top_shows k set m c p = some (showsB set m c p W H) := by
  have hdW := f.dW
  have hdH := f.dH
  unfold top_shows showsB
  rw [f.w]
  by_cases hl : c.Cells.length = W
  · rw [if_neg (by simp [hl]), shows_l0 f h hl (by omega), Option.bind_some, decide_eq_true hl, Bool.true_and]
    cases (List.range W).all (fun x => (tl set p x).S == (colS m c).getD x 0)
    · rfl
    · simp only [sumb, if_true]
      rw [shows_l1 f (by omega), Option.bind_some]
      cases (List.range H).all (endB set p W) <;> rfl
  · rw [if_pos (by simp; omega), decide_eq_false hl]; rfl
theorem pic_shows {m : Machine} {S Y : Nat} (v : Val m S Y) {d : Nat} {c : Config} {r : List Int} (hr : picS m S Y d c = some r) (h : Fit m c) (hd : 1 ≤ d) : showsB (setS m S Y) m c ⟨c.Cells.length, d, r⟩ c.Cells.length d = true := by
  have hp := h.place
  unfold showsB
  simp only [decide_true, Bool.true_and, Bool.and_eq_true, List.all_eq_true, List.mem_range]
  constructor
  · intro x hx
    have := (pic_tl v hr h (c.Cells.length : Int) (show 0 < d by omega) hx).1
    rw [Nat.zero_mul, Nat.zero_add] at this
    rw [this]; simp [wantT, cfgS]
  · intro y hy
    obtain ⟨h1, h2, _⟩ := pic_cells v d c r hr h y hy
    have hz := noStep_zero h2
    have hp1 := h1.place
    rw [cfgS_len] at hz hp1
    have e1 := (pic_tl v hr h (c.Cells.length : Int) hy (show 0 < c.Cells.length by omega)).1
    have e2 := (pic_tl v hr h (c.Cells.length : Int) hy (show c.Cells.length - 1 < c.Cells.length by omega)).1
    rw [Nat.add_zero] at e1
    unfold endB
    rw [e1, e2, Bool.and_eq_true]
    constructor
    · have := east_first h1 h2
      simp only [wantT, this]; rfl
    · have : eastOf m (cfgS m y c) ((c.Cells.length - 1 : Nat) : Int) = 0 := by
        unfold eastOf
        rw [if_neg (by omega), if_neg (by omega)]
      simp only [wantT, this]; rfl
theorem top_l2 {m : Machine} {S Y : Nat} {x : Shown} {W H : Nat} (f : PForm (setS m S Y) x.P W H) {y : Nat} (hy : y < H) {c : Config} (h : Fit m c) (hl : c.Cells.length = W) (b : Bool) (hN : ∀ i, i < W → (tl (setS m S Y) x.P (y * W + i)).N = (colS m c).getD i 0) {k : Nat} (hk : W < k) :
    top_TopMachine.l2 k 0 m x (setS m S Y, 0) y (c, b) = some (.inr ()) := by
  have hdW := f.dW
  have hdH := f.dH
  have hwh := f.wh
  have := loop_all (F := fun k i (_ : Unit) => top_TopMachine.l2 k i m x (setS m S Y, 0) y (c, b)) (S := fun _ => ()) (b := fun _ => true) (n := W) (K := 0) (r := false) (e := ()) (fun k i _ hi => by
    show top_TopMachine.l2 (k + 1) i m x (setS m S Y, 0) y (c, b) = if true = true then top_TopMachine.l2 k ((i + 1 : Nat) : Int) m x (setS m S Y, 0) y (c, b) else _
    have hpl := place_lt hi hy
    have c0 := f.tl hpl
    have e1 : w64 (w64 ((y : Int) * (W : Int)) + (i : Int)) = ((y * W + i : Nat) : Int) := by
      rw [← Int.natCast_mul, w64_id (n := ((y * W : Nat) : Int)) (by omega) (by omega), w64_id (by omega) (by omega)]; rfl
    rw [top_TopMachine.l2, f.w, if_pos (by simpa using hi)]
    simp only [e1, rdD_nat]
    rw [if_pos (by rw [f.len]; omega), if_pos c0.2, c0.1, colour_top h (by omega), Option.bind_some, hN i hi, w64_id (by omega) (by omega)]
    simp) (fun k => by
    show top_TopMachine.l2 (k + 1) W m x (setS m S Y, 0) y (c, b) = _
    rw [top_TopMachine.l2, f.w, if_neg (by simp)]) k (by omega)
  have h0 : top_TopMachine.l2 k 0 m x (setS m S Y, 0) y (c, b) = some (if (List.range W).all (fun _ => true) = true then .inr () else .inl false) := this
  rw [h0, if_pos (by simp)]
theorem top_l1 {m : Machine} {S Y : Nat} (v : Val m S Y) {x : Shown} {W H : Nat} (f : PForm (setS m S Y) x.P W H) {c : Config} (hl : c.Cells.length = W)
    (hrow : ∀ y, y < H → Fit m (cfgS m y c) ∧ noStep m (cfgS m y c) = 0 ∧ ∀ i, i < W → x.P.Cells.getD (y * W + i) 0 = tileAt m S Y (cfgS m y c) i ∧ (tl (setS m S Y) x.P (y * W + i)).N = (colS m (nextC m (cfgS m y c))).getD i 0) {k : Nat} (hk : H + 40001 < k) :
    top_TopMachine.l1 k c.State c.At c.Cells 0 m x (setS m S Y, 0) = some (.inr ()) := by
  have hdW := f.dW
  have hdH := f.dH
  have := loop_all (F := fun k i (c' : Config) => top_TopMachine.l1 k c'.State c'.At c'.Cells i m x (setS m S Y, 0)) (S := fun y => cfgS m y c) (b := fun _ => true) (n := H) (K := 40001) (r := false) (e := ()) (fun k y hk hy => by
    obtain ⟨h1, h2, h3⟩ := hrow y hy
    show top_TopMachine.l1 (k + 1) (cfgS m y c).State (cfgS m y c).At (cfgS m y c).Cells y m x (setS m S Y, 0) = if true = true then top_TopMachine.l1 k (cfgS m (y + 1) c).State (cfgS m (y + 1) c).At (cfgS m (y + 1) c).Cells ((y + 1 : Nat) : Int) m x (setS m S Y, 0) else _
    rw [top_TopMachine.l1, f.h, if_pos (by simpa using hy), show (Config.mk (cfgS m y c).State (cfgS m y c).At (cfgS m y c).Cells) = cfgS m y c from rfl, after_eq h1, if_pos h2, Option.bind_some]
    simp only [Bool.not_true, Bool.false_eq_true, if_false]
    rw [top_l2 f hy (h1.next h2) (by rw [next_len, cfgS_len]; exact hl) true (fun i hi => (h3 i hi).2) (by omega), Option.bind_some]
    simp only [sumb]
    rw [w64_id (by omega) (by omega), if_pos trivial, cfgS_succ]; rfl) (fun k => by
    show top_TopMachine.l1 (k + 1) (cfgS m H c).State (cfgS m H c).At (cfgS m H c).Cells H m x (setS m S Y, 0) = _
    rw [top_TopMachine.l1, f.h, if_neg (by simp)]) k (by omega)
  have h0 : top_TopMachine.l1 k c.State c.At c.Cells 0 m x (setS m S Y, 0) = some (if (List.range H).all (fun _ => true) = true then .inr () else .inl false) := this
  rw [h0, if_pos (by simp)]
theorem cycle_eq {a : Int} (ha : ok64 a) {n : Nat} (hn : 1 ≤ n ∧ n ≤ 1000) : ∃ h : Nat, top_cycle a n = some (h : Int) ∧ h < n := by
  have h1 : -(n : Int) < Int.tmod a n ∧ Int.tmod a n < n := by
    have := Int.tmod_lt_of_pos a (show (0 : Int) < n by omega)
    have h2 := Int.tmod_lt_of_pos (-a) (show (0 : Int) < n by omega)
    rw [Int.neg_tmod] at h2
    omega
  unfold top_cycle
  rw [if_pos (by omega), w64_id (by omega) (by omega)]
  have h3 : 0 ≤ Int.tmod (Int.tmod a n + n) n := Int.tmod_nonneg _ (by omega)
  have h4 := Int.tmod_lt_of_pos (Int.tmod a n + n) (show (0 : Int) < n by omega)
  exact ⟨(Int.tmod (Int.tmod a n + n) n).toNat, by rw [Int.toNat_of_nonneg h3], by omega⟩
theorem top_TopMachine_pure : ∀ (p0 : Machine) (p1 : Config) (p2 : Shown), (ok_Machine p0) → (ok_Config p1) → (ok_Shown p2) → ∃ k, top_TopMachine k p0 p1 p2 = some true := by
  intro m c x _ _ hx
  refine ⟨100000, ?_⟩
  have st : top_steps 100000 = some true := steps_ok 99940
  have hok : ok64 x.Height := by have := hx; unfold ok_Shown at this; simp_all
  unfold top_TopMachine
  cases hv : validB m
  · rw [tiles0 hv (by omega)]
    simp [st]
  · obtain ⟨S, Y, v⟩ := val_of hv
    have hlen := setS_len v
    rw [tiles1 v hv (by omega), Option.bind_some]
    simp only [bne_self_eq_false, Bool.false_eq_true, if_false]
    rw [fits1 m c 100000 (by omega), Option.bind_some, Option.bind_some]
    cases hf : fitsB m c
    · simp [st]
    · have h := fit_of hf
      have hp := h.place
      by_cases h5 : (x.P.Cells.length : Int) > 5000
      · rw [if_pos (by simp; omega), st]; rfl
      · rw [if_neg (by simp; omega)]
        obtain ⟨g, hg, hgn⟩ := cycle_eq hok (n := 30) (by omega)
        have hg : top_cycle x.Height 30 = some (g : Int) := hg
        have hw : w64 ((g : Int) + 1) = ((g + 1 : Nat) : Int) := by rw [w64_id (by omega) (by omega)]; rfl
        have h9 : c.Cells.length * (g + 1) ≤ 200 * 30 := Nat.mul_le_mul (by omega) (by omega)
        have hq : (c.Cells.length : Int) * ((g + 1 : Nat) : Int) ≤ 40000 := by rw [← Int.natCast_mul]; omega
        have hm : (g + 1) * c.Cells.length ≤ 40000 := by rw [Nat.mul_comm]; omega
        rw [hg, Option.bind_some]
        simp only [hw]
        rw [pic1 v h (by omega) (by omega) hq (by omega), Option.bind_some, Int.toNat_natCast]
        have hl0 := top_l0 hw (by omega) (g + 1) 100000 0 c (by omega) (by omega) h
        rw [Nat.zero_add] at hl0
        have hl0 : top_TopMachine.l0 100000 0 c.State c.At c.Cells m g = some (((runS m (g + 1) c).2 : Int), (runS m (g + 1) c).1.State, (runS m (g + 1) c).1.At, (runS m (g + 1) c).1.Cells) := hl0
        rw [hl0, Option.bind_some]
        have hpr := pic_run (m := m) (S := S) (Y := Y) (g + 1) c
        have hle := run_le (m := m) (g + 1) c
        have first : ((if (decide (((runS m (g + 1) c).2 : Int) < ((g + 1 : Nat) : Int)) && ((picR ((g + 1 : Nat) : Int) (c.Cells.length) (picS m S Y (g + 1) c)).2 != 6)) = true then (some true) else ((if ((((runS m (g + 1) c).2 : Nat) : Int) == ((g + 1 : Nat) : Int)) = true then ((if ((((picR ((g + 1 : Nat) : Int) (c.Cells.length) (picS m S Y (g + 1) c)).2 != 0) || ((picR ((g + 1 : Nat) : Int) (c.Cells.length) (picS m S Y (g + 1) c)).1.Height != ((g + 1 : Nat) : Int))) = true) then (some true) else ((top_of 100000 (setS m S Y) (picR ((g + 1 : Nat) : Int) (c.Cells.length) (picS m S Y (g + 1) c)).1 false).bind fun t19693 => some (!t19693))).bind fun x19690 => (if x19690 = true then (some true) else ((top_shows 100000 (setS m S Y) m c (picR ((g + 1 : Nat) : Int) (c.Cells.length) (picS m S Y (g + 1) c)).1).bind fun t19712 => some (!t19712))).bind fun x19709 => some x19709) else (some false)).bind fun x19679 => some x19679)) : Option Bool) = some false := by
          cases hpic : picS m S Y (g + 1) c with
          | none =>
            rw [hpic] at hpr
            have hne : (runS m (g + 1) c).2 ≠ g + 1 := by simpa using hpr
            rw [if_neg (by simp [picR])]
            rw [if_neg (by simp only [beq_iff_eq]; omega)]; rfl
          | some r =>
            rw [hpic] at hpr
            have hne : (runS m (g + 1) c).2 = g + 1 := by simpa using hpr
            have F := pic_form v hpic h (by omega) hm
            rw [hne, if_neg (by simp), if_pos (by simp)]
            simp only [picR, bne_self_eq_false, Bool.or_self, Bool.false_eq_true, if_false]
            rw [top_of_eq F (set_valid v) false (by omega), pic_joins v hpic h (by omega) hm, Option.bind_some, Option.bind_some]
            simp only [Bool.not_true, Bool.false_eq_true, if_false]
            rw [shows_eq F h (by omega), pic_shows v hpic h (by omega)]; rfl
        refine bind_eq first ?_
        rw [if_neg (by decide)]
        cases hof : ofB (setS m S Y) x.P
        · rw [top_of_no hof false (by omega) (by omega)]
          simp [st]
        · obtain ⟨_, W, H, f⟩ := ofB_iff hof
          have hdW := f.dW
          have hdH := f.dH
          have hwh := f.wh
          have hpl := f.len
          rw [top_of_eq f (set_valid v) false (by omega), Option.bind_some]
          by_cases hall : ((List.range (H * W)).all fun i => rightB (setS m S Y) x.P W H false i && upB (setS m S Y) x.P W H false i) = true
          · rw [hall, if_neg (by simp), shows_eq f h (by omega), Option.bind_some, Option.bind_some]
            cases hsh : showsB (setS m S Y) m c x.P W H
            · rw [if_pos (by simp), st]; rfl
            · rw [if_neg (by simp)]
              unfold showsB at hsh
              simp only [Bool.and_eq_true, decide_eq_true_eq] at hsh
              obtain ⟨⟨hcl, hso⟩, hends⟩ := hsh
              have hpair : ∀ i, i < H * W → rightB (setS m S Y) x.P W H false i = true ∧ upB (setS m S Y) x.P W H false i = true := fun i hi => by
                have := List.all_eq_true.1 hall i (by simpa using hi)
                simpa only [Bool.and_eq_true] using this
              have hend : ∀ y, y < H → (tl (setS m S Y) x.P (y * W)).W = 0 ∧ (tl (setS m S Y) x.P (y * W + (W - 1))).E = 0 := fun y hy => by
                have := List.all_eq_true.1 hends y (by simpa using hy)
                unfold endB at this
                simpa only [Bool.and_eq_true, beq_iff_eq] using this
              have hrows := only_rows v f hpair hend h hcl (fun i hi => by
                have := List.all_eq_true.1 hso i (by simpa using hi)
                simpa only [beq_iff_eq] using this)
              rw [top_l1 v f hcl hrows (by omega), Option.bind_some]
              simp only [sumb]
              rw [st]; rfl
          · rw [show ((List.range (H * W)).all fun i => rightB (setS m S Y) x.P W H false i && upB (setS m S Y) x.P W H false i) = false from by simpa only [Bool.not_eq_true] using hall, if_pos (by simp), Option.bind_some, if_pos rfl, st]; rfl
end Gp
