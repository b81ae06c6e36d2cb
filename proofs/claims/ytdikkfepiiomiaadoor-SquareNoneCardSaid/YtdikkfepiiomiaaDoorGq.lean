/- The plain law: what the functions compute answers as the statement says. -/
import Derived.Test.YtdikkfepiiomiaaDoorGp
import Derived.KernelRfl
set_option linter.unusedVariables false
set_option linter.unusedSimpArgs false
namespace Gq
open Go Gw Gp
/-! ### numbers and lists -/
theorem w64_id {n : Int} (h0 : -9223372036854775808 ≤ n) (h1 : n ≤ 9223372036854775807) : w64 n = n := by
  show IntKind.i64.wrap n = n
  have e : IntKind.i64.wrap n = if (true && decide (n % 18446744073709551616 ≥ 9223372036854775808)) = true then n % 18446744073709551616 - 18446744073709551616 else n % 18446744073709551616 := rfl
  rw [e]
  simp only [Bool.true_and, decide_eq_true_eq]
  split <;> omega
theorem rdD_nat {α : Type} (xs : List α) (i : Nat) (d : α) : rdD xs (i : Int) d = xs.getD i d := by simp [rdD]
theorem rdD_get {α : Type} {xs : List α} {i : Nat} (h : i < xs.length) (d : α) : rdD xs (i : Int) d = xs[i] := by
  simp [rdD, List.getD, List.getElem?_eq_getElem h]
def firstS {α β : Type} (g : Nat → α → Option β) : Nat → List α → Option β
  | _, [] => none
  | i, a :: r => match g i a with
    | some b => some b
    | none => firstS g (i + 1) r
def fin {β : Type} : Option β → Sum β Unit
  | some b => .inl b
  | none => .inr ()
theorem scan {α β : Type} {F : Nat → Int → Option (Sum β Unit)} {xs : List α} {g : Nat → α → Option β}
    (hF : ∀ k (i : Nat), i ≤ xs.length → F (k + 1) (i : Int) = if h : i < xs.length then (match g i xs[i] with | some b => some (.inl b) | none => F k ((i + 1 : Nat) : Int)) else some (.inr ())) :
    ∀ (n k i : Nat), i + n = xs.length → n < k → F k (i : Int) = some (fin (firstS g i (xs.drop i)))
  | 0, k, i, hi, hk => by
    obtain ⟨k, rfl⟩ : ∃ m, k = m + 1 := ⟨k - 1, by omega⟩
    have hi : i = xs.length := by omega
    subst hi
    rw [hF k _ (Nat.le_refl _), dif_neg (Nat.lt_irrefl _), List.drop_length]; rfl
  | n + 1, k, i, hi, hk => by
    obtain ⟨k, rfl⟩ : ∃ m, k = m + 1 := ⟨k - 1, by omega⟩
    have hlt : i < xs.length := by omega
    rw [hF k i (by omega), dif_pos hlt, List.drop_eq_getElem_cons hlt, firstS]
    cases hg : g i xs[i] with
    | some b => rfl
    | none => exact scan hF n k (i + 1) (by omega) (by omega)
end Gq
set_option linter.unusedVariables false
set_option linter.unusedSimpArgs false
namespace Gq
theorem flat_succ {α : Type} (f : Nat → List α) (n : Nat) : (List.range (n + 1)).flatMap f = (List.range n).flatMap f ++ f n := by
  rw [List.range_succ, List.flatMap_append]; simp
theorem map_succ {α : Type} (f : Nat → α) (n : Nat) : (List.range (n + 1)).map f = (List.range n).map f ++ [f n] := by
  rw [List.range_succ, List.map_append]; simp
end Gq
namespace Gp
open Gw Gq
/-! ### the tiles of a machine -/
def hd (Y q s : Nat) : Int := ((Y + q * Y + s : Nat) : Int)
end Gp
set_option linter.unusedVariables false
set_option linter.unusedSimpArgs false
namespace Gq
theorem flat_get {α : Type} {f : Nat → List α} : ∀ {n q j : Nat} {t : α}, q < n → (f q)[j]? = some t → ((List.range n).flatMap f)[((List.range q).flatMap f).length + j]? = some t
  | 0, q, j, t, h, _ => by omega
  | n + 1, q, j, t, h, hj => by
    rw [flat_succ, List.getElem?_append]
    by_cases hq : q < n
    · have := flat_get (n := n) hq hj
      rw [if_pos (by by_cases hl : ((List.range q).flatMap f).length + j < ((List.range n).flatMap f).length
                     · exact hl
                     · rw [List.getElem?_eq_none (by omega)] at this; cases this)]
      exact this
    · have : q = n := by omega
      subst this
      rw [if_neg (by omega), show ((List.range q).flatMap f).length + j - ((List.range q).flatMap f).length = j by omega]; exact hj
theorem flat_len {α : Type} {f : Nat → List α} {b : Nat} (hf : ∀ i, (f i).length = b) : ∀ n, ((List.range n).flatMap f).length = n * b
  | 0 => by simp
  | n + 1 => by
    rw [flat_succ, List.length_append, Nat.add_mul, Nat.one_mul, flat_len hf n, hf n]
end Gq
namespace Gp
open Gw Gq
/-! ### where the tiles of a machine lie -/
end Gp
set_option linter.unusedVariables false
set_option linter.unusedSimpArgs false
namespace Gp
open Gw Gq
/-! ### the tile that shows a cell of a step -/
theorem Tile.ext' {a b : Tile} (h1 : a.N = b.N) (h2 : a.E = b.E) (h3 : a.S = b.S) (h4 : a.W = b.W) : a = b := by
  cases a; cases b; simp only at h1 h2 h3 h4; subst h1 h2 h3 h4; rfl
end Gp
set_option linter.unusedVariables false
set_option linter.unusedSimpArgs false
namespace Gq
theorem loop_all {σ ρ τ : Type} {F : Nat → Int → σ → Option (Sum ρ τ)} {S : Nat → σ} {b : Nat → Bool} {n K : Nat} {r : ρ} {e : τ} (hs : ∀ k i, K ≤ k → i < n → F (k + 1) (i : Int) (S i) = if b i = true then F k ((i + 1 : Nat) : Int) (S (i + 1)) else some (.inl r)) (he : ∀ k, F (k + 1) (n : Int) (S n) = some (.inr e)) :
    ∀ k, n + K < k → F k 0 (S 0) = some (if (List.range n).all b = true then .inr e else .inl r) := by
  have key : ∀ d i k, i + d = n → d + K < k → F k (i : Int) (S i) = some (if (List.range' i d).all b = true then .inr e else .inl r) := by
    intro d
    induction d with
    | zero =>
      intro i k hi hk
      obtain ⟨k, rfl⟩ : ∃ m, k = m + 1 := ⟨k - 1, by omega⟩
      have : i = n := by omega
      subst this; rw [he]; rfl
    | succ d ih =>
      intro i k hi hk
      obtain ⟨k, rfl⟩ : ∃ m, k = m + 1 := ⟨k - 1, by omega⟩
      rw [hs k i (by omega) (by omega), List.range'_succ, List.all_cons]
      cases hb : b i
      · rfl
      · rw [if_pos rfl, ih (i + 1) k (by omega) (by omega)]; rfl
  intro k hk
  rw [List.range_eq_range']
  exact key n 0 k (by omega) hk
theorem firstS_ge' {α : Type} {p : α → Bool} : ∀ (xs : List α) (i : Nat), (match firstS (fun i a => if p a = true then none else some (i : Int)) i xs with
    | some x => decide (0 ≤ x)
    | none => false) = !xs.all p
  | [], i => rfl
  | a :: r, i => by
    rw [firstS]
    cases h : p a
    · simp [h]
    · simp only [if_true, List.all_cons, h, Bool.true_and]
      exact firstS_ge' r (i + 1)
end Gq
namespace Gp
open Gw Gq
/-! ### sets of tiles and patterns -/
def inCol (c : Int) : Bool := decide (0 ≤ c ∧ c < 1000)
def colB (t : Tile) : Bool := inCol t.N && inCol t.E && inCol t.S && inCol t.W
theorem idx_col (xs : List Int) (hl : xs.length ≤ 1000000) (k : Nat) (hk : xs.length < k) :
    slices_IndexFunc_int_int_with_tile_colour_1.l0 k 0 xs = some (fin (firstS (fun i a => if inCol a = true then none else some (i : Int)) 0 xs)) := by
  have := scan (F := fun k i => slices_IndexFunc_int_int_with_tile_colour_1.l0 k i xs) (xs := xs) (g := fun i a => if inCol a = true then none else some (i : Int)) (fun k i hi => by
    show slices_IndexFunc_int_int_with_tile_colour_1.l0 (k + 1) i xs = _
    rw [slices_IndexFunc_int_int_with_tile_colour_1.l0]
    by_cases h : i < xs.length
    · have h' : (i : Int) < (xs.length : Int) := by omega
      have h2 : 0 ≤ (i : Int) ∧ (i : Int) < (xs.length : Int) := by omega
      rw [dif_pos h, if_pos (by simpa using h'), if_pos h2, rdD_get h, tile_colour_1, w64_id (by omega) (by omega)]
      by_cases hb : 0 ≤ xs[i] ∧ xs[i] < 1000
      · have h3 : ¬ (xs[i] < 0 ∨ 1000 ≤ xs[i]) := by omega
        simp [inCol, hb]
        intro hh; exact absurd hh h3
      · have h3 : (xs[i] < 0 ∨ 1000 ≤ xs[i]) := by omega
        simp [inCol, hb, h3]
    · have h' : ¬ (i : Int) < (xs.length : Int) := by omega
      rw [dif_neg h, if_neg (by simpa using h')]) xs.length k 0 (by simp) hk
  simpa using this
theorem colour_eq (xs : List Int) (hl : xs.length ≤ 1000000) (k : Nat) (hk : xs.length < k) : tile_colour k xs = some (xs.all inCol) := by
  unfold tile_colour slices_ContainsFunc_int_int_with_tile_colour_1 slices_IndexFunc_int_int_with_tile_colour_1
  rw [idx_col xs hl k hk]
  have := firstS_ge' (p := inCol) xs 0
  cases hf : firstS (fun i a => if inCol a = true then none else some (i : Int)) 0 xs <;> rw [hf] at this <;> cases ha : xs.all inCol <;> rw [ha] at this <;> simp [fin, sumb] at this ⊢
  · exact this
  · exact this
def metS (set : List Tile) (i : Nat) : List (Tile × Bool) := (set.take i).map fun t => (t, true)
theorem mget_met (t : Tile) : ∀ l : List Tile, mget t false (l.map fun t => (t, true)) = decide (t ∈ l)
  | [] => rfl
  | a :: r => by
    simp only [List.map_cons, mget]
    by_cases h : t = a
    · simp [h]
    · rw [if_neg h, mget_met t r]; simp [h]
theorem mput_met (t : Tile) : ∀ l : List Tile, t ∉ l → mput t true (l.map fun t => (t, true)) = (l.map fun t => (t, true)) ++ [(t, true)]
  | [], _ => rfl
  | a :: r, h => by
    simp only [List.mem_cons, not_or] at h
    simp only [List.map_cons, mput, if_neg h.1, mput_met t r h.2, List.cons_append]
def newB (set : List Tile) (i : Nat) : Bool := !decide (set.getD i z_Tile ∈ set.take i) && colB (set.getD i z_Tile)
def validT (set : List Tile) : Bool := decide (set.length ≤ 1000) && (List.range set.length).all (newB set)
theorem tile_valid (set : List Tile) {k : Nat} (hk : 1006 ≤ k) (hl : set.length ≤ 9223372036854775807) : tile_Valid k set = some (validT set) := by
  unfold tile_Valid validT
  by_cases hb : set.length ≤ 1000
  · rw [if_neg (by simp; omega)]
    have := loop_all (F := fun k i (m : List (Tile × Bool)) => tile_Valid.l0 k m i set) (S := metS set) (b := newB set) (n := set.length) (K := 5) (r := false) (e := ()) (fun k i hk hi => by
      show tile_Valid.l0 (k + 1) (metS set i) i set = if newB set i = true then tile_Valid.l0 k (metS set (i + 1)) ((i + 1 : Nat) : Int) set else _
      rw [tile_Valid.l0, if_pos (by simpa using hi), if_pos (by omega), rdD_nat, metS, mget_met]
      have ht : set.getD i z_Tile = set[i] := by simp [List.getElem?_eq_getElem hi]
      unfold newB
      by_cases hm : set.getD i z_Tile ∈ set.take i
      · rw [if_pos (by simpa using hm), show decide (set.getD i z_Tile ∈ set.take i) = true from decide_eq_true hm]; rfl
      · rw [if_neg (by simpa using hm), colour_eq _ (by simp) k (by simp; omega), Option.bind_some, Option.bind_some]
        have hc : ([(set.getD i z_Tile).N, (set.getD i z_Tile).E, (set.getD i z_Tile).S, (set.getD i z_Tile).W].all inCol) = colB (set.getD i z_Tile) := by simp [colB, Bool.and_assoc]
        rw [hc]
        cases hcb : colB (set.getD i z_Tile)
        · simp
        · rw [mput_met _ _ hm, w64_id (by omega) (by omega)]
          simp only [hm, Bool.not_true, Bool.false_eq_true, if_false, decide_false, Bool.not_false, Bool.and_self, if_true]
          unfold metS
          rw [List.take_add_one, List.map_append, List.getElem?_eq_getElem hi, ht]; rfl) (fun k => by
      show tile_Valid.l0 (k + 1) (metS set set.length) set.length set = _
      rw [tile_Valid.l0, if_neg (by simp)]) k (by omega)
    have h0 : tile_Valid.l0 k [] 0 set = some (if (List.range set.length).all (newB set) = true then .inr () else .inl false) := this
    rw [h0]
    cases (List.range set.length).all (newB set) <;> simp [sumb, hb]
  · rw [if_pos (by simp; omega)]; simp [hb]
def formB (p : Pattern) : Bool := decide (1 ≤ p.Width ∧ 1 ≤ p.Height ∧ p.Width ≤ 40000 ∧ p.Height ≤ 40000 ∧ p.Width * p.Height ≤ 40000 ∧ (p.Cells.length : Int) = p.Width * p.Height)
theorem form_eq (p : Pattern) : tile_Form p = some (formB p) := by
  unfold tile_Form formB
  by_cases h : 1 ≤ p.Width ∧ 1 ≤ p.Height ∧ p.Width ≤ 40000 ∧ p.Height ≤ 40000
  · have h0 : 0 ≤ p.Width * p.Height := Int.mul_nonneg (by omega) (by omega)
    have h1 : p.Width * p.Height ≤ 40000 * 40000 := Int.mul_le_mul (by omega) (by omega) (by omega) (by omega)
    rw [w64_id (n := p.Width * p.Height) (by omega) (by omega)]
    simp [h]; rfl
  · congr 1
    have : ((((decide (p.Width ≥ 1)) && (decide (p.Height ≥ 1))) && (decide (p.Width ≤ 40000))) && (decide (p.Height ≤ 40000))) = false := by
      cases he : ((((decide (p.Width ≥ 1)) && (decide (p.Height ≥ 1))) && (decide (p.Width ≤ 40000))) && (decide (p.Height ≤ 40000)))
      · rfl
      · simp only [Bool.and_eq_true, decide_eq_true_eq] at he
        exact absurd ⟨he.1.1.1, he.1.1.2, he.1.2, he.2⟩ h
    rw [this]; simp only [Bool.false_and]
    exact (decide_eq_false (fun h' => h ⟨h'.1, h'.2.1, h'.2.2.1, h'.2.2.2.1⟩)).symm
def inSet (n : Nat) (c : Int) : Bool := decide (0 ≤ c ∧ c < (n : Int))
theorem idx_of (set : List Tile) (xs : List Int) (hl : xs.length ≤ 1000000) (k : Nat) (hk : xs.length < k) :
    slices_IndexFunc_int_int_with_tile_of_1.l0 k 0 xs set = some (fin (firstS (fun i a => if inSet set.length a = true then none else some (i : Int)) 0 xs)) := by
  have := scan (F := fun k i => slices_IndexFunc_int_int_with_tile_of_1.l0 k i xs set) (xs := xs) (g := fun i a => if inSet set.length a = true then none else some (i : Int)) (fun k i hi => by
    show slices_IndexFunc_int_int_with_tile_of_1.l0 (k + 1) i xs set = _
    rw [slices_IndexFunc_int_int_with_tile_of_1.l0]
    by_cases h : i < xs.length
    · have h' : (i : Int) < (xs.length : Int) := by omega
      have h2 : 0 ≤ (i : Int) ∧ (i : Int) < (xs.length : Int) := by omega
      rw [dif_pos h, if_pos (by simpa using h'), if_pos h2, rdD_get h, tile_of_1, w64_id (by omega) (by omega)]
      by_cases hb : 0 ≤ xs[i] ∧ xs[i] < (set.length : Int)
      · have h3 : ¬ (xs[i] < 0 ∨ (set.length : Int) ≤ xs[i]) := by omega
        simp [inSet, hb]
        intro hh; exact absurd hh h3
      · have h3 : (xs[i] < 0 ∨ (set.length : Int) ≤ xs[i]) := by omega
        simp [inSet, hb, h3]
    · have h' : ¬ (i : Int) < (xs.length : Int) := by omega
      rw [dif_neg h, if_neg (by simpa using h')]) xs.length k 0 (by simp) hk
  simpa using this
theorem contains_of (set : List Tile) (xs : List Int) (hl : xs.length ≤ 1000000) (k : Nat) (hk : xs.length < k) : slices_ContainsFunc_int_int_with_tile_of_1 k xs set = some (!xs.all (inSet set.length)) := by
  unfold slices_ContainsFunc_int_int_with_tile_of_1 slices_IndexFunc_int_int_with_tile_of_1
  rw [idx_of set xs hl k hk]
  have := firstS_ge' (p := inSet set.length) xs 0
  cases hf : firstS (fun i a => if inSet set.length a = true then none else some (i : Int)) 0 xs <;> rw [hf] at this <;> cases ha : xs.all (inSet set.length) <;> rw [ha] at this <;> simp [fin, sumb] at this ⊢
  · exact this
  · exact this
def ofB (set : List Tile) (p : Pattern) : Bool := validT set && formB p && p.Cells.all (inSet set.length)
theorem formB_len {p : Pattern} (h : formB p = true) : p.Cells.length ≤ 40000 := by
  unfold formB at h
  simp only [decide_eq_true_eq] at h
  omega
theorem of_eq (set : List Tile) (p : Pattern) {k : Nat} (hk : 40001 ≤ k) (hl : set.length ≤ 9223372036854775807) : tile_of k set p = some (ofB set p) := by
  unfold tile_of ofB
  rw [tile_valid set (by omega) hl, Option.bind_some, form_eq]
  cases hv : validT set
  · rfl
  · rw [if_pos rfl]
    cases hf : formB p
    · rfl
    · have := formB_len hf
      rw [Option.bind_some, Option.bind_some, if_pos rfl, contains_of set p.Cells (by omega) k (by omega)]
      simp
def tl (set : List Tile) (p : Pattern) (j : Nat) : Tile := set.getD (p.Cells.getD j 0).toNat z_Tile
def rightB (set : List Tile) (p : Pattern) (W H : Nat) (round : Bool) (i : Nat) : Bool := !(decide (i % W + 1 < W) || round) || (tl set p i).E == (tl set p (i / W * W + (i % W + 1) % W)).W
def upB (set : List Tile) (p : Pattern) (W H : Nat) (round : Bool) (i : Nat) : Bool := !(decide (i / W + 1 < H) || round) || (tl set p i).N == (tl set p ((i / W + 1) % H * W + i % W)).S
structure PForm (set : List Tile) (p : Pattern) (W H : Nat) : Prop where
  w : p.Width = W
  h : p.Height = H
  dW : 1 ≤ W ∧ W ≤ 40000
  dH : 1 ≤ H ∧ H ≤ 40000
  wh : H * W ≤ 40000
  len : p.Cells.length = H * W
  cel : ∀ j, j < H * W → 0 ≤ p.Cells.getD j 0 ∧ p.Cells.getD j 0 < (set.length : Int)
theorem ofB_iff {set : List Tile} {p : Pattern} (h : ofB set p = true) : validT set = true ∧ ∃ W H, PForm set p W H := by
  unfold ofB at h
  simp only [Bool.and_eq_true, List.all_eq_true] at h
  obtain ⟨⟨h1, h2⟩, h3⟩ := h
  refine ⟨h1, p.Width.toNat, p.Height.toNat, ?_⟩
  unfold formB at h2
  simp only [decide_eq_true_eq] at h2
  obtain ⟨a1, a2, a3, a4, a5, a6⟩ := h2
  have e : ((p.Height.toNat * p.Width.toNat : Nat) : Int) = p.Width * p.Height := by rw [Int.natCast_mul, Int.toNat_of_nonneg (by omega), Int.toNat_of_nonneg (by omega), Int.mul_comm]
  refine ⟨by omega, by omega, by omega, by omega, by omega, by omega, fun j hj => ?_⟩
  have hj2 : j < p.Cells.length := by omega
  have := h3 (p.Cells.getD j 0) (by rw [show p.Cells.getD j 0 = p.Cells[j] from by simp [List.getElem?_eq_getElem hj2]]; exact List.getElem_mem _)
  simpa [inSet] using this
theorem PForm.tl {set : List Tile} {p : Pattern} {W H : Nat} (f : PForm set p W H) {j : Nat} (hj : j < H * W) : rdD set (p.Cells.getD j 0) z_Tile = Gp.tl set p j ∧ (0 ≤ p.Cells.getD j 0 ∧ p.Cells.getD j 0 < (set.length : Int)) := ⟨rfl, f.cel j hj⟩
theorem place_lt {W H x y : Nat} (hx : x < W) (hy : y < H) : y * W + x < H * W := by
  have := Nat.mul_le_mul_right W (show y + 1 ≤ H by omega)
  rw [Nat.succ_mul] at this; omega
theorem joins_eq {set : List Tile} {p : Pattern} {W H : Nat} (f : PForm set p W H) (round : Bool) {k : Nat} (hk : 40001 ≤ k) : tile_joins k set p round = some ((List.range (H * W)).all fun i => rightB set p W H round i && upB set p W H round i) := by
  have hwh := f.wh
  have hdW := f.dW
  have hdH := f.dH
  unfold tile_joins
  have := loop_all (F := fun k i (_ : Unit) => tile_joins.l0 k i set p round) (S := fun _ => ()) (b := fun i => rightB set p W H round i && upB set p W H round i) (n := H * W) (K := 0) (r := false) (e := ()) (fun k i _ hi => by
    show tile_joins.l0 (k + 1) i set p round = if (rightB set p W H round i && upB set p W H round i) = true then tile_joins.l0 k ((i + 1 : Nat) : Int) set p round else _
    obtain ⟨y, hyd⟩ : ∃ y, i / W = y := ⟨_, rfl⟩
    obtain ⟨x, hxd⟩ : ∃ x, i % W = x := ⟨_, rfl⟩
    obtain ⟨x2, hx2d⟩ : ∃ x2, (x + 1) % W = x2 := ⟨_, rfl⟩
    obtain ⟨y2, hy2d⟩ : ∃ y2, (y + 1) % H = y2 := ⟨_, rfl⟩
    have hx : x < W := hxd ▸ Nat.mod_lt _ (by omega)
    have hy : y < H := hyd ▸ Nat.div_lt_of_lt_mul (by rw [Nat.mul_comm]; exact hi)
    have hx2 : x2 < W := hx2d ▸ Nat.mod_lt _ (by omega)
    have hy2 : y2 < H := hy2d ▸ Nat.mod_lt _ (by omega)
    have hr := place_lt hx2 hy
    have hu := place_lt hx hy2
    have e1 : Int.tmod (i : Int) (W : Int) = (x : Int) := by rw [← hxd]; rfl
    have e2 : Int.tdiv (i : Int) (W : Int) = (y : Int) := by rw [← hyd]; rfl
    have e3 : w64 ((x : Int) + 1) = ((x + 1 : Nat) : Int) := by rw [w64_id (by omega) (by omega)]; rfl
    have e4 : w64 (y : Int) = (y : Int) := w64_id (by omega) (by omega)
    have e5 : w64 ((y : Int) + 1) = ((y + 1 : Nat) : Int) := by rw [w64_id (by omega) (by omega)]; rfl
    have e6 : Int.tmod ((x + 1 : Nat) : Int) (W : Int) = (x2 : Int) := by rw [← hx2d]; rfl
    have e7 : Int.tmod ((y + 1 : Nat) : Int) (H : Int) = (y2 : Int) := by rw [← hy2d]; rfl
    have e8 : w64 (w64 ((y : Int) * (W : Int)) + (x2 : Int)) = ((y * W + x2 : Nat) : Int) := by
      rw [← Int.natCast_mul, w64_id (n := ((y * W : Nat) : Int)) (by omega) (by omega), w64_id (by omega) (by omega)]; rfl
    have e9 : w64 (w64 ((y2 : Int) * (W : Int)) + (x : Int)) = ((y2 * W + x : Nat) : Int) := by
      rw [← Int.natCast_mul, w64_id (n := ((y2 * W : Nat) : Int)) (by omega) (by omega), w64_id (by omega) (by omega)]; rfl
    have c0 := f.tl hi
    have c1 := f.tl hr
    have c2 := f.tl hu
    have b1 : 0 ≤ ((y * W + x2 : Nat) : Int) ∧ ((y * W + x2 : Nat) : Int) < (p.Cells.length : Int) := by rw [f.len]; omega
    have b2 : 0 ≤ ((y2 * W + x : Nat) : Int) ∧ ((y2 * W + x : Nat) : Int) < (p.Cells.length : Int) := by rw [f.len]; omega
    rw [tile_joins.l0, if_pos (decide_eq_true (by rw [f.len]; exact Int.ofNat_lt.2 hi)), if_pos (by rw [f.len]; omega), f.w, f.h, if_pos (by omega)]
    simp only [e1, e2, e3, e4, e5, e6, e7, e8, e9, rdD_nat, if_pos c0.2, if_pos c1.2, if_pos c2.2, if_pos b1, if_pos b2, c0.1, c1.1, c2.1]
    have g1 : decide (((x + 1 : Nat) : Int) < (W : Int)) = decide (x + 1 < W) := by congr 1; apply propext; omega
    have g2 : decide (((y + 1 : Nat) : Int) < (H : Int)) = decide (y + 1 < H) := by congr 1; apply propext; omega
    have g3 : (H : Int) ≠ 0 := by omega
    rw [g1, g2]
    have e10 : w64 ((i : Int) + 1) = ((i + 1 : Nat) : Int) := by rw [w64_id (by omega) (by omega)]; rfl
    simp only [if_pos g3, e10]
    unfold rightB upB
    rw [hyd, hxd, hx2d, hy2d]
    cases (decide (x + 1 < W) || round) <;> cases (decide (y + 1 < H) || round)
    · simp [sumb]
    · cases hN : ((tl set p i).N == (tl set p (y2 * W + x)).S) <;> simp [sumb, hN, bne]
    · cases hE : ((tl set p i).E == (tl set p (y * W + x2)).W) <;> simp [sumb, hE, bne]
    · cases hE : ((tl set p i).E == (tl set p (y * W + x2)).W) <;> cases hN : ((tl set p i).N == (tl set p (y2 * W + x)).S) <;> simp [sumb, hE, hN, bne]) (fun k => by
    show tile_joins.l0 (k + 1) ((H * W : Nat) : Int) set p round = _
    rw [tile_joins.l0, if_neg (by rw [f.len]; simp)]) k (by omega)
  have h0 : tile_joins.l0 k 0 set p round = some (if ((List.range (H * W)).all fun i => rightB set p W H round i && upB set p W H round i) = true then .inr () else .inl false) := this
  rw [h0]
  cases ((List.range (H * W)).all fun i => rightB set p W H round i && upB set p W H round i) <;> rfl
end Gp
set_option linter.unusedVariables false
set_option linter.unusedSimpArgs false
namespace Gp
open Gw Gq
/-! ### the pictures are patterns of the tiles -/
theorem PForm.of {set : List Tile} {p : Pattern} {W H : Nat} (f : PForm set p W H) (hv : validT set = true) : ofB set p = true := by
  unfold ofB formB
  have h1 := f.dW; have h2 := f.dH; have h3 := f.wh
  have e : p.Width * p.Height = ((H * W : Nat) : Int) := by rw [f.w, f.h, Int.natCast_mul, Int.mul_comm]
  rw [hv, e, f.w, f.h, f.len]
  simp only [Bool.true_and, Bool.and_eq_true, decide_eq_true_eq, List.all_eq_true]
  refine ⟨⟨by omega, by omega, by omega, by omega, by omega, trivial⟩, fun a ha => ?_⟩
  obtain ⟨j, hj, he⟩ := List.mem_iff_getElem.1 ha
  have := f.cel j (by rw [← f.len]; exact hj)
  rw [show p.Cells.getD j 0 = p.Cells[j] from by simp [List.getElem?_eq_getElem hj], he] at this
  unfold inSet; exact decide_eq_true this
theorem fits_eq {set : List Tile} {p : Pattern} {W H : Nat} (f : PForm set p W H) (hv : validT set = true) (hl : set.length ≤ 9223372036854775807) {k : Nat} (hk : 40001 ≤ k) : tile_Fits k set p = some ((List.range (H * W)).all fun i => rightB set p W H false i && upB set p W H false i) := by
  unfold tile_Fits
  rw [of_eq set p hk hl, f.of hv, Option.bind_some, if_pos rfl, joins_eq f false hk]; rfl
end Gp
set_option linter.unusedVariables false
set_option linter.unusedSimpArgs false
namespace Gq
end Gq
namespace Gp
open Gw Gq
/-! ### the patterns of the statements' own reference -/
end Gp
set_option linter.unusedVariables false
set_option linter.unusedSimpArgs false
namespace Gp
open Gw Gq
end Gp
set_option linter.unusedVariables false
set_option linter.unusedSimpArgs false
namespace Gp
open Gw Gq
/-! ### a torus, repeated -/
theorem repeats_eq {set : List Tile} {p : Pattern} {W H : Nat} (f : PForm set p W H) (hv : validT set = true) (hl : set.length ≤ 9223372036854775807) {k : Nat} (hk : 40001 ≤ k) : tile_Repeats k set p = some ((List.range (H * W)).all fun i => rightB set p W H true i && upB set p W H true i) := by
  unfold tile_Repeats
  rw [of_eq set p hk hl, f.of hv, Option.bind_some, if_pos rfl, joins_eq f true hk]; rfl
theorem fits_no {set : List Tile} {p : Pattern} (h : ofB set p = false) (hl : set.length ≤ 9223372036854775807) {k : Nat} (hk : 40001 ≤ k) : tile_Fits k set p = some false ∧ tile_Repeats k set p = some false := by
  unfold tile_Fits tile_Repeats
  rw [of_eq set p hk hl, h]
  exact ⟨rfl, rfl⟩
end Gp
set_option linter.unusedVariables false
set_option linter.unusedSimpArgs false
namespace Gp
open Gw Gq
/-! ### the first layer's reference -/
theorem colour01 (c : Int) : ref01_colour c = some (inCol c) := by
  unfold ref01_colour inCol
  by_cases h : 0 ≤ c ∧ c < 1000
  · simp [h]
  · rw [decide_eq_false h]
    congr 1
    cases h1 : decide (c ≥ 0)
    · rfl
    · have : ¬ c < 1000 := fun h2 => h ⟨by simpa using h1, h2⟩
      simp [this]
theorem index01 {set : List Tile} (hl : set.length ≤ 1000000) (t : Tile) {k : Nat} (hk : set.length < k) : ∃ r : Int, ref01_Index k set t = some r ∧ decide (r ≥ 0) = decide (t ∈ set) := by
  have := scan (F := fun k i => ref01_Index.l0 k i set t) (xs := set) (g := fun i a => if a = t then some (i : Int) else none) (fun k i hi => by
    show ref01_Index.l0 (k + 1) i set t = _
    rw [ref01_Index.l0]
    by_cases h : i < set.length
    · have h2 : 0 ≤ (i : Int) ∧ (i : Int) < (set.length : Int) := by omega
      rw [dif_pos h, if_pos (by simpa using h), if_pos h2, rdD_get h, w64_id (by omega) (by omega)]
      by_cases hb : set[i] = t
      · subst hb; simp
      · have : ((set[i].N == t.N) && ((set[i].E == t.E) && ((set[i].S == t.S) && (set[i].W == t.W)))) = false := by
          cases hc : ((set[i].N == t.N) && ((set[i].E == t.E) && ((set[i].S == t.S) && (set[i].W == t.W))))
          · rfl
          · simp only [Bool.and_eq_true, beq_iff_eq] at hc
            exact absurd (Tile.ext' hc.1 hc.2.1 hc.2.2.1 hc.2.2.2) hb
        rw [this, if_neg hb]; rfl
    · rw [dif_neg h, if_neg (by simpa using h)]) set.length k 0 (by simp) hk
  have h0 : ref01_Index.l0 k 0 set t = some (fin (firstS (fun i a => if a = t then some (i : Int) else none) 0 (set.drop 0))) := this
  rw [List.drop_zero] at h0
  have key : ∀ (l : List Tile) (i : Nat), match firstS (fun i a => if a = t then some (i : Int) else none) i l with
      | some x => decide (x ≥ 0) = decide (t ∈ l)
      | none => decide (t ∈ l) = false := by
    intro l
    induction l with
    | nil => intro i; simp [firstS]
    | cons a r ih =>
      intro i
      rw [firstS]
      by_cases ha : a = t
      · subst ha; simp
      · have hne : ¬ t = a := fun e => ha e.symm
        rw [if_neg ha]
        have := ih (i + 1)
        cases hf : firstS (fun i a => if a = t then some (i : Int) else none) (i + 1) r with
        | none => rw [hf] at this; simp only [List.mem_cons, hne, false_or]; exact this
        | some x => rw [hf] at this; simp only [List.mem_cons, hne, false_or]; exact this
  unfold ref01_Index
  rw [h0]
  have hk2 := key set 0
  cases hf : firstS (fun i a => if a = t then some (i : Int) else none) 0 set with
  | none => rw [hf] at hk2; exact ⟨-1, rfl, by rw [hk2]; rfl⟩
  | some x => rw [hf] at hk2; exact ⟨x, rfl, hk2⟩
theorem valid01 (set : List Tile) {k : Nat} (hk : 2002 < k) (hl : set.length ≤ 9223372036854775807) : ref01_Valid k set = some (validT set) := by
  unfold ref01_Valid validT
  by_cases hb : set.length ≤ 1000
  · rw [if_neg (by simp; omega)]
    have := loop_all (F := fun k i (_ : Unit) => ref01_Valid.l0 k i set) (S := fun _ => ()) (b := newB set) (n := set.length) (K := 1001) (r := false) (e := ()) (fun k i hk hi => by
      show ref01_Valid.l0 (k + 1) i set = if newB set i = true then ref01_Valid.l0 k ((i + 1 : Nat) : Int) set else _
      have hcut : cut set (0 : Int) (i : Int) = set.take i := by unfold cut; simp
      obtain ⟨r, hr, hd⟩ := index01 (set := set.take i) (by rw [List.length_take]; omega) (set.getD i z_Tile) (k := k) (by rw [List.length_take]; omega)
      rw [ref01_Valid.l0, if_pos (by simpa using hi), if_pos (by omega)]
      simp only [rdD_nat, colour01, Option.bind_some, hcut]
      rw [if_pos (⟨by omega, by omega, by omega⟩ : 0 ≤ (0 : Int) ∧ (0 : Int) ≤ (i : Int) ∧ (i : Int) ≤ (set.length : Int)), hr, w64_id (by omega) (by omega)]
      simp only [Option.bind_some, hd]
      unfold newB colB
      cases inCol (set.getD i z_Tile).N
      · simp
      · cases inCol (set.getD i z_Tile).E
        · simp
        · cases inCol (set.getD i z_Tile).S
          · simp
          · cases inCol (set.getD i z_Tile).W
            · simp
            · cases decide (set.getD i z_Tile ∈ set.take i) <;> simp) (fun k => by
      show ref01_Valid.l0 (k + 1) set.length set = _
      rw [ref01_Valid.l0, if_neg (by simp)]) k (by omega)
    have h0 : ref01_Valid.l0 k 0 set = some (if (List.range set.length).all (newB set) = true then .inr () else .inl false) := this
    rw [h0]
    cases (List.range set.length).all (newB set) <;> simp [sumb, hb]
  · rw [if_pos (by simp; omega)]; simp [hb]
def inB (set : List Tile) (p : Pattern) : Bool := formB p && p.Cells.all (inSet set.length)
theorem inB_iff {set : List Tile} {p : Pattern} (h : inB set p = true) : ∃ W H, PForm set p W H := by
  unfold inB at h
  simp only [Bool.and_eq_true, List.all_eq_true] at h
  obtain ⟨h2, h3⟩ := h
  refine ⟨p.Width.toNat, p.Height.toNat, ?_⟩
  unfold formB at h2
  simp only [decide_eq_true_eq] at h2
  obtain ⟨a1, a2, a3, a4, a5, a6⟩ := h2
  have e : ((p.Height.toNat * p.Width.toNat : Nat) : Int) = p.Width * p.Height := by rw [Int.natCast_mul, Int.toNat_of_nonneg (by omega), Int.toNat_of_nonneg (by omega), Int.mul_comm]
  refine ⟨by omega, by omega, by omega, by omega, by omega, by omega, fun j hj => ?_⟩
  have hj2 : j < p.Cells.length := by omega
  have := h3 (p.Cells.getD j 0) (by rw [show p.Cells.getD j 0 = p.Cells[j] from by simp [List.getElem?_eq_getElem hj2]]; exact List.getElem_mem _)
  simpa [inSet] using this
theorem PForm.inB {set : List Tile} {p : Pattern} {W H : Nat} (f : PForm set p W H) : formB p = true ∧ p.Cells.all (inSet set.length) = true := by
  have h1 := f.dW; have h2 := f.dH; have h3 := f.wh
  have e : p.Width * p.Height = ((H * W : Nat) : Int) := by rw [f.w, f.h, Int.natCast_mul, Int.mul_comm]
  constructor
  · unfold formB; rw [e, f.w, f.h, f.len]; exact decide_eq_true ⟨by omega, by omega, by omega, by omega, by omega, rfl⟩
  · rw [List.all_eq_true]
    intro a ha
    obtain ⟨j, hj, he⟩ := List.mem_iff_getElem.1 ha
    have := f.cel j (by rw [← f.len]; exact hj)
    rw [show p.Cells.getD j 0 = p.Cells[j] from by simp [List.getElem?_eq_getElem hj], he] at this
    unfold inSet; exact decide_eq_true this
theorem round_iff {set : List Tile} {p : Pattern} {W H : Nat} (f : PForm set p W H) : ((List.range (H * W)).all fun i => rightB set p W H true i && upB set p W H true i) =
    (((List.range (H * W)).all fun i => rightB set p W H false i && upB set p W H false i) && (List.range H).all (fun y => (tl set p (y * W + (W - 1))).E == (tl set p (y * W + 0)).W) && (List.range W).all (fun x => (tl set p ((H - 1) * W + x)).N == (tl set p (0 * W + x)).S)) := by
  have hdW := f.dW
  have hdH := f.dH
  have q1 : ∀ y x, x < W → (y * W + x) % W = x := fun y x hx => by rw [Nat.mul_comm, Nat.mul_add_mod, Nat.mod_eq_of_lt hx]
  have q2 : ∀ y x, x < W → (y * W + x) / W = y := fun y x hx => by rw [Nat.mul_comm, Nat.mul_add_div (by omega), Nat.div_eq_of_lt hx]; omega
  rw [Bool.eq_iff_iff, Bool.and_eq_true, Bool.and_eq_true]
  simp only [List.all_eq_true, List.mem_range, Bool.and_eq_true]
  constructor
  · intro h
    refine ⟨⟨fun i hi => ?_, fun y hy => ?_⟩, fun x hx => ?_⟩
    · have := h i hi
      unfold rightB upB at this ⊢
      simp only [Bool.or_true, Bool.not_true, Bool.false_or] at this
      exact ⟨by rw [this.1, Bool.or_true], by rw [this.2, Bool.or_true]⟩
    · have := (h _ (place_lt (show W - 1 < W by omega) hy)).1
      unfold rightB at this
      rw [q1 y _ (by omega), q2 y _ (by omega), show W - 1 + 1 = W by omega, Nat.mod_self] at this
      simpa using this
    · have := (h _ (place_lt hx (show H - 1 < H by omega))).2
      unfold upB at this
      rw [q1 _ x hx, q2 _ x hx, show H - 1 + 1 = H by omega, Nat.mod_self] at this
      simpa using this
  · rintro ⟨⟨h1, h2⟩, h3⟩ i hi
    have hx : i % W < W := Nat.mod_lt _ (by omega)
    have hy : i / W < H := Nat.div_lt_of_lt_mul (by rw [Nat.mul_comm]; exact hi)
    have ei : i / W * W + i % W = i := by rw [Nat.mul_comm, Nat.div_add_mod]
    have hh := h1 i hi
    unfold rightB upB at hh ⊢
    simp only [Bool.or_true, Bool.not_true, Bool.false_or]
    constructor
    · by_cases hc : i % W + 1 < W
      · simpa [hc] using hh.1
      · have e1 : i % W + 1 = W := by omega
        have := h2 _ hy
        rw [e1, Nat.mod_self]
        rw [show i / W * W + (W - 1) = i by omega] at this
        exact this
    · by_cases hc : i / W + 1 < H
      · simpa [hc] using hh.2
      · have e1 : i / W + 1 = H := by omega
        have := h3 _ hx
        rw [e1, Nat.mod_self]
        rw [show H - 1 = i / W by omega, ei] at this
        exact this
end Gp
set_option linter.unusedVariables false
set_option linter.unusedSimpArgs false
namespace Gp
open Gw Gq
/-! ### grids: lists of rows -/
def grid (w h : Nat) (g : Nat → Nat → Int) : List Int := (List.range h).flatMap fun y => (List.range w).map (g y)
theorem grid_len (w h : Nat) (g : Nat → Nat → Int) : (grid w h g).length = h * w := flat_len (f := fun y => (List.range w).map (g y)) (b := w) (fun y => by simp) h
theorem grid_get (w h : Nat) (g : Nat → Nat → Int) {x y : Nat} (hx : x < w) (hy : y < h) : (grid w h g).getD (y * w + x) 0 = g y x := by
  have := flat_get (f := fun y => (List.range w).map (g y)) (n := h) (q := y) (j := x) (t := g y x) hy (by simp [hx])
  have e : ((List.range y).flatMap fun y => (List.range w).map (g y)).length = y * w := grid_len w y g
  rw [e] at this
  unfold grid
  rw [List.getD_eq_getElem?_getD, this]; rfl
/-! ### stores into a list -/
def sets (l : List Int) (q : List (Nat × Int)) : List Int := q.foldl (fun l p => l.set p.1 p.2) l
/-! ### patterns that have the form of one -/
structure GForm (p : Pattern) (W H : Nat) : Prop where
  w : p.Width = W
  h : p.Height = H
  dW : 1 ≤ W ∧ W ≤ 40000
  dH : 1 ≤ H ∧ H ≤ 40000
  wh : H * W ≤ 40000
  len : p.Cells.length = H * W
theorem GForm.form {p : Pattern} {W H : Nat} (f : GForm p W H) : formB p = true := by
  have h1 := f.dW; have h2 := f.dH; have h3 := f.wh
  have e : p.Width * p.Height = ((H * W : Nat) : Int) := by rw [f.w, f.h, Int.natCast_mul, Int.mul_comm]
  unfold formB; rw [e, f.w, f.h, f.len]; exact decide_eq_true ⟨by omega, by omega, by omega, by omega, by omega, rfl⟩
theorem PForm.g {set : List Tile} {p : Pattern} {W H : Nat} (f : PForm set p W H) : GForm p W H := ⟨f.w, f.h, f.dW, f.dH, f.wh, f.len⟩
def cellG (p : Pattern) (W y x : Nat) : Int := p.Cells.getD (y * W + x) 0
theorem GForm.at {p : Pattern} {W H : Nat} (f : GForm p W H) {x y : Nat} (hx : x < W) (hy : y < H) : w64 (w64 ((y : Int) * (W : Int)) + (x : Int)) = ((y * W + x : Nat) : Int) ∧ (0 ≤ ((y * W + x : Nat) : Int) ∧ ((y * W + x : Nat) : Int) < (p.Cells.length : Int)) := by
  have hwh := f.wh
  have hp := place_lt hx hy
  refine ⟨?_, by omega, by rw [f.len]; omega⟩
  rw [← Int.natCast_mul, w64_id (n := ((y * W : Nat) : Int)) (by omega) (by omega), w64_id (by omega) (by omega)]; rfl
/-! ### the changed patterns -/
end Gp
set_option linter.unusedVariables false
set_option linter.unusedSimpArgs false
namespace Gp
open Gw Gq
/-! ### cuts -/
/-! ### patterns, repeated -/
/-! ### what is equal -/
end Gp
set_option linter.unusedVariables false
set_option linter.unusedSimpArgs false
namespace Gp
open Gw Gq
/-! ### changed sets -/
def upT (t : Tile) : Tile := ⟨t.S, t.E, t.N, t.W⟩
structure Chg (f : Tile → Tile) : Prop where
  inj : ∀ a b, f a = f b → a = b
  col : ∀ t, colB (f t) = colB t
theorem chg_up : Chg upT := ⟨fun a b h => by cases a; cases b; simp only [upT, Tile.mk.injEq] at h; obtain ⟨rfl, rfl, rfl, rfl⟩ := h; rfl, fun t => by unfold colB upT; simp only; cases inCol t.N <;> cases inCol t.E <;> cases inCol t.S <;> cases inCol t.W <;> rfl⟩
theorem getD_map (f : Tile → Tile) {s : List Tile} {i : Nat} (h : i < s.length) : (s.map f).getD i z_Tile = f (s.getD i z_Tile) := by simp [List.getElem?_eq_getElem h]
theorem Chg.valid {f : Tile → Tile} (c : Chg f) {s : List Tile} (hv : validT s = true) : validT (s.map f) = true := by
  unfold validT at hv ⊢
  simp only [Bool.and_eq_true, decide_eq_true_eq, List.all_eq_true, List.mem_range, List.length_map] at hv ⊢
  refine ⟨hv.1, fun i hi => ?_⟩
  have := hv.2 i hi
  unfold newB at this ⊢
  rw [getD_map f hi, ← List.map_take, c.col]
  simp only [Bool.and_eq_true, Bool.not_eq_true', decide_eq_false_iff_not] at this ⊢
  refine ⟨fun hm => this.1 ?_, this.2⟩
  obtain ⟨a, ha, he⟩ := List.mem_map.1 hm
  rw [← c.inj _ _ he]; exact ha
/-! ### how the tiles of a grid meet -/
def JP (W H : Nat) (round : Bool) (T : Nat → Nat → Tile) : Prop :=
  (∀ y x, y < H → x < W → (x + 1 < W ∨ round = true) → (T y x).E = (T y ((x + 1) % W)).W) ∧ (∀ y x, y < H → x < W → (y + 1 < H ∨ round = true) → (T y x).N = (T ((y + 1) % H) x).S)
theorem JP.congr {W H : Nat} {round : Bool} {T T' : Nat → Nat → Tile} (he : ∀ y x, y < H → x < W → T y x = T' y x) (h : JP W H round T) : JP W H round T' := by
  refine ⟨fun y x hy hx hr => ?_, fun y x hy hx hr => ?_⟩
  · rw [← he y x hy hx, ← he y _ hy (Nat.mod_lt _ (by omega))]; exact h.1 y x hy hx hr
  · rw [← he y x hy hx, ← he _ x (Nat.mod_lt _ (by omega)) hx]; exact h.2 y x hy hx hr
def GP (W H : Nat) (c : Nat → Nat → Int) : Pattern := ⟨W, H, grid W H c⟩
def TT (s : List Tile) (c : Nat → Nat → Int) (y x : Nat) : Tile := s.getD (c y x).toNat z_Tile
structure GOK (s : List Tile) (W H : Nat) (c : Nat → Nat → Int) (whole : Bool) : Prop where
  valid : validT s = true
  dW : 1 ≤ W ∧ W ≤ 40000
  dH : 1 ≤ H ∧ H ≤ 40000
  wh : H * W ≤ 40000
  cel : ∀ y x, y < H → x < W → 0 ≤ c y x ∧ c y x < (s.length : Int)
  fits : JP W H false (TT s c)
  round : whole = true ↔ JP W H true (TT s c)
theorem valid_len {s : List Tile} (hv : validT s = true) : s.length ≤ 1000 := by unfold validT at hv; simp only [Bool.and_eq_true, decide_eq_true_eq] at hv; exact hv.1
theorem GOK.congr {s : List Tile} {W H : Nat} {c c' : Nat → Nat → Int} {whole : Bool} (g : GOK s W H c whole) (he : ∀ y x, y < H → x < W → c y x = c' y x) : GOK s W H c' whole := by
  have ht : ∀ y x, y < H → x < W → TT s c y x = TT s c' y x := fun y x hy hx => by unfold TT; rw [he y x hy hx]
  exact ⟨g.valid, g.dW, g.dH, g.wh, fun y x hy hx => by rw [← he y x hy hx]; exact g.cel y x hy hx, g.fits.congr ht, g.round.trans ⟨fun h => h.congr ht, fun h => h.congr (fun y x hy hx => (ht y x hy hx).symm)⟩⟩
theorem TT_map {f : Tile → Tile} {s : List Tile} {c : Nat → Nat → Int} {y x : Nat} (h : 0 ≤ c y x ∧ c y x < (s.length : Int)) : TT (s.map f) c y x = f (TT s c y x) := by
  unfold TT
  rw [getD_map f (by omega)]
/-! mirrored -/
theorem mod_back {W x : Nat} (hx : x < W) : (W - 1 - (x + 1) % W + 1) % W = W - 1 - x ∧ W - 1 - (x + 1) % W < W ∧ (x + 1 < W → W - 1 - (x + 1) % W + 1 < W) := by
  by_cases h : x + 1 < W
  · rw [Nat.mod_eq_of_lt h, show W - 1 - (x + 1) + 1 = W - 1 - x by omega, Nat.mod_eq_of_lt (by omega)]; omega
  · have e : x + 1 = W := by omega
    rw [e, Nat.mod_self, show W - 1 - 0 + 1 = W by omega, Nat.mod_self]; omega
theorem JP.up {W H : Nat} {round : Bool} {T : Nat → Nat → Tile} (h : JP W H round T) : JP W H round (fun y x => upT (T (H - 1 - y) x)) := by
  refine ⟨fun y x hy hx hr => ?_, fun y x hy hx hr => ?_⟩
  · exact h.1 (H - 1 - y) x (by omega) hx hr
  · obtain ⟨e, hlt, hi⟩ := mod_back hy
    have := h.2 (H - 1 - (y + 1) % H) x hlt hx (hr.imp hi id)
    rw [e] at this
    exact this.symm
theorem GOK.up {s : List Tile} {W H : Nat} {c : Nat → Nat → Int} {whole : Bool} (g : GOK s W H c whole) : GOK (s.map upT) W H (fun y x => c (H - 1 - y) x) whole := by
  have hdH := g.dH
  have ht : ∀ y x, y < H → x < W → upT (TT s c (H - 1 - y) x) = TT (s.map upT) (fun y x => c (H - 1 - y) x) y x := fun y x hy hx => by
    exact (TT_map (f := upT) (c := fun y x => c (H - 1 - y) x) (y := y) (x := x) (g.cel (H - 1 - y) x (by omega) hx)).symm
  refine ⟨chg_up.valid g.valid, g.dW, g.dH, g.wh, fun y x hy hx => by rw [List.length_map]; exact g.cel _ x (by omega) hx, g.fits.up.congr ht, ?_⟩
  rw [g.round]
  constructor
  · exact fun h => h.up.congr ht
  · intro h
    have := (h.congr (fun y x hy hx => (ht y x hy hx).symm)).up
    exact this.congr fun y x hy hx => by
      rw [show H - 1 - (H - 1 - y) = y by omega]; rfl
theorem GP.g {W H : Nat} {c : Nat → Nat → Int} (dW : 1 ≤ W ∧ W ≤ 40000) (dH : 1 ≤ H ∧ H ≤ 40000) (wh : H * W ≤ 40000) : GForm (GP W H c) W H := ⟨rfl, rfl, dW, dH, wh, grid_len W H c⟩
theorem GP.cell {W H : Nat} (c : Nat → Nat → Int) {y x : Nat} (hy : y < H) (hx : x < W) : cellG (GP W H c) W y x = c y x := grid_get W H c hx hy
end Gp
set_option linter.unusedVariables false
set_option linter.unusedSimpArgs false
namespace Gp
open Gw Gq
end Gp
set_option linter.unusedVariables false
set_option linter.unusedSimpArgs false
namespace Gq
theorem loop_list {α σ τ : Type} {F : Nat → Int → σ → Option τ} (xs : List α) (step : σ → α → σ) (K : Nat) (P : Nat → σ → Prop) (fin : σ → τ)
    (hs : ∀ k i s (h : i < xs.length), K ≤ k → P i s → F (k + 1) (i : Int) s = F k ((i + 1 : Nat) : Int) (step s xs[i]) ∧ P (i + 1) (step s xs[i])) (he : ∀ k s, P xs.length s → F (k + 1) (xs.length : Int) s = some (fin s)) :
    ∀ (s0 : σ), P 0 s0 → ∀ k, xs.length + K < k → F k 0 s0 = some (fin (xs.foldl step s0)) := by
  have key : ∀ d i s k, i + d = xs.length → P i s → d + K < k → F k (i : Int) s = some (fin ((xs.drop i).foldl step s)) := by
    intro d
    induction d with
    | zero =>
      intro i s k hi hp hk
      obtain ⟨k, rfl⟩ : ∃ m, k = m + 1 := ⟨k - 1, by omega⟩
      have : i = xs.length := by omega
      subst this
      rw [he k s hp, List.drop_length]; rfl
    | succ d ih =>
      intro i s k hi hp hk
      obtain ⟨k, rfl⟩ : ∃ m, k = m + 1 := ⟨k - 1, by omega⟩
      have hlt : i < xs.length := by omega
      obtain ⟨h1, h2⟩ := hs k i s hlt (by omega) hp
      rw [h1, ih (i + 1) _ k (by omega) h2 (by omega), List.drop_eq_getElem_cons hlt]; rfl
  intro s0 h0 k hk
  have := key xs.length 0 s0 k (by omega) h0 hk
  simpa using this
end Gq
namespace Gp
open Gw Gq
/-! ### words, rows -/
def tat (set : List Tile) (i : Nat) : Tile := set.getD i z_Tile
def cz (c : List Nat) : List Int := c.map fun (i : Nat) => (i : Int)
def wordOf (l : List Int) : A8_Int := ⟨l.getD 0 0, l.getD 1 0, l.getD 2 0, l.getD 3 0, l.getD 4 0, l.getD 5 0, l.getD 6 0, l.getD 7 0⟩
def mkR (set : List Tile) (c : List Nat) : Row := ⟨cz c, wordOf (c.map fun i => (tat set i).S), wordOf (c.map fun i => (tat set i).N), (tat set (c.headD 0)).W, (tat set (c.getLastD 0)).E⟩
def follows (set : List Tile) (c : List Nat) (i : Nat) : Bool := match c.getLast? with
  | none => true
  | some j => (tat set j).E == (tat set i).W
def rowsL (set : List Tile) : Nat → List Nat → List (List Nat)
  | 0, c => [c]
  | n + 1, c => ((List.range set.length).filter (follows set c)).flatMap fun i => rowsL set n (c ++ [i])
theorem wordOf_get (l : List Int) (i : Nat) (hi : i < 8) : (wordOf l).get i = l.getD i 0 := by
  have : i = 0 ∨ i = 1 ∨ i = 2 ∨ i = 3 ∨ i = 4 ∨ i = 5 ∨ i = 6 ∨ i = 7 := by omega
  rcases this with rfl | rfl | rfl | rfl | rfl | rfl | rfl | rfl <;> rfl
theorem wordOf_inj {a b : List Int} (ha : a.length ≤ 8) (h : a.length = b.length) : wordOf a = wordOf b ↔ a = b := by
  constructor
  · intro e
    apply List.ext_getElem? 
    intro i
    by_cases hi : i < a.length
    · have h1 := wordOf_get a i (by omega)
      have h2 := wordOf_get b i (by omega)
      rw [e, h2] at h1
      rw [List.getElem?_eq_getElem hi, List.getElem?_eq_getElem (by omega)]
      simp only [List.getD, List.getElem?_eq_getElem hi, List.getElem?_eq_getElem (show i < b.length by omega), Option.getD_some] at h1
      rw [h1]
    · rw [List.getElem?_eq_none (by omega), List.getElem?_eq_none (by omega)]
  · intro e; rw [e]
theorem wordOf_set (l : List Int) (v : Int) (hl : l.length < 8) : (wordOf l).set l.length v = wordOf (l ++ [v]) := by
  have : l.length = 0 ∨ l.length = 1 ∨ l.length = 2 ∨ l.length = 3 ∨ l.length = 4 ∨ l.length = 5 ∨ l.length = 6 ∨ l.length = 7 := by omega
  match l, this with
  | [], _ => rfl
  | [a], _ => rfl
  | [a, b], _ => rfl
  | [a, b, c], _ => rfl
  | [a, b, c, d], _ => rfl
  | [a, b, c, d, e], _ => rfl
  | [a, b, c, d, e, f], _ => rfl
  | [a, b, c, d, e, f, g], _ => rfl
  | _ :: _ :: _ :: _ :: _ :: _ :: _ :: _ :: l, h => simp at h
theorem rowOf_l0 (set : List Tile) (c : List Nat) (hc : ∀ i ∈ c, i < set.length) (h8 : c.length ≤ 8) {k : Nat} (hk : c.length < k) :
    rows_rowOf.l0 k (A8_Int.mk 0 0 0 0 0 0 0 0) (A8_Int.mk 0 0 0 0 0 0 0 0) 0 set (cz c) = some (wordOf (c.map fun i => (tat set i).S), wordOf (c.map fun i => (tat set i).N)) := by
  have key : ∀ d i k, i + d = c.length → d < k → rows_rowOf.l0 k (wordOf ((c.take i).map fun i => (tat set i).S)) (wordOf ((c.take i).map fun i => (tat set i).N)) (i : Int) set (cz c) = some (wordOf (c.map fun i => (tat set i).S), wordOf (c.map fun i => (tat set i).N)) := by
    intro d
    induction d with
    | zero =>
      intro i k hi hk
      obtain ⟨k, rfl⟩ : ∃ m, k = m + 1 := ⟨k - 1, by omega⟩
      have : i = c.length := by omega
      subst this
      rw [rows_rowOf.l0, if_neg (by simp [cz]), List.take_length]
    | succ d ih =>
      intro i k hi hk
      obtain ⟨k, rfl⟩ : ∃ m, k = m + 1 := ⟨k - 1, by omega⟩
      have hlt : i < c.length := by omega
      have hci := hc c[i] (List.getElem_mem _)
      have hz : rdD (cz c) (i : Int) 0 = ((c[i] : Nat) : Int) := by rw [rdD_get (by simpa [cz] using hlt)]; simp [cz]
      rw [rows_rowOf.l0, if_pos (by simp [cz]; omega), if_pos (by simp [cz]; omega), hz, if_pos (by omega), if_pos (by omega), w64_id (by omega) (by omega), rdD_nat]
      have e1 := wordOf_set ((c.take i).map fun i => (tat set i).S) (tat set c[i]).S (by simp; omega)
      have e2 := wordOf_set ((c.take i).map fun i => (tat set i).N) (tat set c[i]).N (by simp; omega)
      have hlen : ((c.take i).map fun i => (tat set i).S).length = i := by simp; omega
      have hlen2 : ((c.take i).map fun i => (tat set i).N).length = i := by simp; omega
      rw [hlen] at e1; rw [hlen2] at e2
      have ht : c.take (i + 1) = c.take i ++ [c[i]] := by rw [List.take_add_one, List.getElem?_eq_getElem hlt]; rfl
      show rows_rowOf.l0 k (A8_Int.set _ i (tat set c[i]).S) (A8_Int.set _ i (tat set c[i]).N) _ set (cz c) = _
      rw [e1, e2]
      have := ih (i + 1) k (by omega) (by omega)
      rw [ht, List.map_append, List.map_append] at this
      exact this
  exact key c.length 0 k (by omega) hk
theorem rowOf_eq (set : List Tile) (c : List Nat) (hc : ∀ i ∈ c, i < set.length) (h8 : c.length ≤ 8) (h1 : 1 ≤ c.length) {k : Nat} (hk : c.length < k) : rows_rowOf k set (cz c) = some (mkR set c) := by
  have hl : (cz c).length = c.length := by simp [cz]
  have h0 : rdD (cz c) (0 : Int) 0 = ((c.headD 0 : Nat) : Int) := by
    cases c with
    | nil => simp at h1
    | cons a r => rfl
  have hn : c ≠ [] := by intro e; rw [e] at h1; simp at h1
  have hh : c.headD 0 < set.length := by
    cases c with
    | nil => simp at h1
    | cons a r => exact hc a (by simp)
  have hlast : c.getLastD 0 < set.length := by
    rw [List.getLastD_eq_getLast?, List.getLast?_eq_some_getLast hn]; exact hc _ (List.getLast_mem hn)
  have hw : w64 (((cz c).length : Int) - 1) = ((c.length - 1 : Nat) : Int) := by rw [hl, w64_id (by omega) (by omega)]; omega
  have hz : rdD (cz c) (((c.length - 1 : Nat) : Int)) 0 = ((c.getLastD 0 : Nat) : Int) := by
    rw [rdD_get (by rw [hl]; omega)]
    rw [List.getLastD_eq_getLast?, List.getLast?_eq_some_getLast hn, Option.getD_some, List.getLast_eq_getElem]
    simp [cz]
  unfold rows_rowOf
  rw [rowOf_l0 set c hc h8 hk, hw, hz, h0, if_pos (by simp [cz]; omega), Option.bind_some, if_pos (by rw [hl]; omega), if_pos (by omega), if_pos (by rw [hl]; omega), if_pos (by omega), rdD_nat, rdD_nat]
  rfl
theorem all1 (set : List Tile) (w : Nat) (h1 : 1 ≤ w) (h8 : w ≤ 8) (hl : set.length ≤ 1000000) : ∀ (n x : Nat) (c : List Nat) (out : List Row) (cells : List Int) (k : Nat), x + n = w → c.length = x → (∀ i ∈ c, i < set.length) → cells.length = w → cells.take x = cz c →
    out.length + (rowsL set n c).length ≤ 100000000000 → n + set.length + 10 < k → ∃ cells', rows_All_1 k (x : Int) (w : Int) out set cells = some (out ++ (rowsL set n c).map (mkR set), cells') ∧ cells'.length = w ∧ cells'.take x = cz c := by
  intro n
  induction n with
  | zero =>
    intro x c out cells k hx hc hcs hcl hct hb hk
    obtain ⟨k, rfl⟩ : ∃ m, k = m + 1 := ⟨k - 1, by omega⟩
    have hxw : x = w := by omega
    subst hxw
    have he : cells = cz c := by rw [← hct, ← hcl, List.take_length]
    refine ⟨cells, ?_, hcl, hct⟩
    rw [rows_All_1, if_pos (by simp), he, rowOf_eq set c hcs (by omega) (by omega) (by omega), Option.bind_some, if_pos (by simp [rowsL] at hb; omega)]
    rfl
  | succ n ih =>
    intro x c out cells k hx hc hcs hcl hct hb hk
    obtain ⟨k, rfl⟩ : ∃ m, k = m + 1 := ⟨k - 1, by omega⟩
    have key : ∀ d i k' (out : List Row) (cells : List Int), i + d = set.length → d < k' → cells.length = w → cells.take x = cz c → out.length + (((List.range' i d).filter (follows set c)).flatMap fun i => rowsL set n (c ++ [i])).length ≤ 100000000000 →
        ∃ cells', rows_All_1.l0 k' out cells (i : Int) (x : Int) (w : Int) set (rows_All_1 k) = some (out ++ (((List.range' i d).filter (follows set c)).flatMap fun i => rowsL set n (c ++ [i])).map (mkR set), cells') ∧ cells'.length = w ∧ cells'.take x = cz c := by
      intro d
      induction d with
      | zero =>
        intro i k' out cells hi hk' hcl hct hb
        obtain ⟨k', rfl⟩ : ∃ m, k' = m + 1 := ⟨k' - 1, by omega⟩
        have : i = set.length := by omega
        subst this
        refine ⟨cells, ?_, hcl, hct⟩
        rw [rows_All_1.l0, if_neg (by simp)]; simp
      | succ d ihd =>
        intro i k' out cells hi hk' hcl hct hb
        obtain ⟨k', rfl⟩ : ∃ m, k' = m + 1 := ⟨k' - 1, by omega⟩
        have hlt : i < set.length := by omega
        have hcond : (if ((x : Int) == 0) = true then (some true) else (if 0 ≤ w64 ((x : Int) - 1) ∧ w64 ((x : Int) - 1) < (cells.length : Int) then (if 0 ≤ (rdD cells (w64 ((x : Int) - 1)) 0) ∧ (rdD cells (w64 ((x : Int) - 1)) 0) < (set.length : Int) then (some (((rdD set (rdD cells (w64 ((x : Int) - 1)) 0) z_Tile).E) == ((rdD set (i : Int) z_Tile).W))) else none) else none)) = some (follows set c i) := by
          by_cases h0 : x = 0
          · subst h0
            have : c = [] := List.eq_nil_of_length_eq_zero hc
            subst this
            rfl
          · have hn : c ≠ [] := by intro e; rw [e] at hc; simp at hc; omega
            have hw : w64 ((x : Int) - 1) = ((x - 1 : Nat) : Int) := by rw [w64_id (by omega) (by omega)]; omega
            have hz : rdD cells (((x - 1 : Nat) : Int)) 0 = ((c.getLast hn : Nat) : Int) := by
              rw [rdD_get (by omega)]
              have : cells[x - 1]'(by omega) = (cells.take x)[x - 1]'(by simp; omega) := by simp
              rw [this]
              simp only [hct, List.getLast_eq_getElem]
              simp [cz, hc]
            have hm := hcs _ (List.getLast_mem hn)
            rw [if_neg (by simp; omega), hw, if_pos (by omega), hz, if_pos (by omega), rdD_nat, rdD_nat]
            unfold follows
            rw [List.getLast?_eq_some_getLast hn]; rfl
        have hwi : w64 ((i : Int) + 1) = ((i + 1 : Nat) : Int) := by rw [w64_id (by omega) (by omega)]; rfl
        rw [rows_All_1.l0, if_pos (by simpa using hlt), if_pos (by omega), hcond, Option.bind_some, hwi]
        rw [List.range'_succ, List.filter_cons] at hb ⊢
        cases hf : follows set c i
        · rw [hf] at hb
          simp only [Bool.false_eq_true, if_false] at hb ⊢
          rw [Option.bind_some]
          exact ihd (i + 1) k' out cells (by omega) (by omega) hcl hct hb
        · rw [hf] at hb
          simp only [if_true, List.flatMap_cons, List.length_append] at hb ⊢
          have hset : (cells.set x (i : Int)).take (x + 1) = cz (c ++ [i]) := by
            rw [List.take_add_one, List.take_set_of_le (Nat.le_refl _), hct, List.getElem?_set_self (by omega)]
            simp [cz]
          have hw1 : w64 ((x : Int) + 1) = ((x + 1 : Nat) : Int) := by rw [w64_id (by omega) (by omega)]; rfl
          obtain ⟨cells1, e1, l1, t1⟩ := ih (x + 1) (c ++ [i]) out (cells.set x (i : Int)) k (by omega) (by simp [hc]) (fun j hj => by
            rcases List.mem_append.1 hj with hj | hj
            · exact hcs j hj
            · simp at hj; omega) (by simp [hcl]) hset (by omega) (by omega)
          have t1' : cells1.take x = cz c := by
            have : cells1.take x = (cells1.take (x + 1)).take x := by rw [List.take_take, Nat.min_eq_left (by omega)]
            rw [this, t1]
            simp [cz, ← hc]
          obtain ⟨cells2, e2, l2, t2⟩ := ihd (i + 1) k' (out ++ (rowsL set n (c ++ [i])).map (mkR set)) cells1 (by omega) (by omega) l1 t1' (by simp only [List.length_append, List.length_map]; omega)
          refine ⟨cells2, ?_, l2, t2⟩
          rw [if_pos (by omega), hw1]
          simp only [Int.toNat_natCast]
          rw [e1, Option.bind_some, Option.bind_some]
          show rows_All_1.l0 k' _ cells1 ((i + 1 : Nat) : Int) _ _ _ _ = _
          rw [e2, List.map_append, List.append_assoc]
    rw [rowsL] at hb
    rw [List.range_eq_range'] at hb
    obtain ⟨cells', e, l, t⟩ := key set.length 0 k out cells (by omega) (by omega) hcl hct hb
    refine ⟨cells', ?_, l, t⟩
    rw [rows_All_1, if_neg (by simp; omega)]
    have e' : rows_All_1.l0 k out cells 0 (x : Int) (w : Int) set (rows_All_1 k) = _ := e
    rw [e', Option.bind_some, rowsL, List.range_eq_range']
theorem rowsL_len (set : List Tile) : ∀ (n : Nat) (c : List Nat), (rowsL set n c).length ≤ set.length ^ n
  | 0, c => by simp [rowsL]
  | n + 1, c => by
    rw [rowsL, List.length_flatMap]
    have : ∀ l : List Nat, (l.map fun i => (rowsL set n (c ++ [i])).length).sum ≤ l.length * set.length ^ n := by
      intro l
      induction l with
      | nil => simp
      | cons a r ih =>
        simp only [List.map_cons, List.sum_cons, List.length_cons]
        have := rowsL_len set n (c ++ [a])
        rw [Nat.add_mul]; omega
    refine Nat.le_trans (this _) ?_
    have h2 : ((List.range set.length).filter (follows set c)).length ≤ set.length := by
      have := List.length_filter_le (follows set c) (List.range set.length); simpa using this
    rw [Nat.pow_succ, Nat.mul_comm (set.length ^ n)]
    exact Nat.mul_le_mul_right _ h2
def allR (set : List Tile) (w : Nat) : List Row := (rowsL set w []).map (mkR set)
theorem all_eq (set : List Tile) (w : Nat) (h1 : 1 ≤ w) (h8 : w ≤ 8) (hl : set.length ≤ 1000000) (hf : set.length ^ w ≤ 100000000000) {k : Nat} (hk : set.length + 20 < k) : rows_All k set (w : Int) = some (allR set w) := by
  have hb := rowsL_len set w []
  obtain ⟨cells, e, _, _⟩ := all1 set w h1 h8 hl w 0 [] [] (List.replicate w 0) k (by omega) rfl (fun i h => by cases h) (by simp) (by simp [cz]) (by simp; omega) (by omega)
  unfold rows_All
  have e' : rows_All_1 k 0 (w : Int) [] set (List.replicate w 0) = _ := e
  rw [if_pos (by omega), Int.toNat_natCast, e']; rfl
/-! few -/
def fewB (n w : Nat) : Bool := decide ((max n 1) ^ w ≤ 5000)
theorem few_eq (set : List Tile) (w : Nat) (hw : w ≤ 1000) (hl : set.length ≤ 1000000) {k : Nat} (hk : w < k) : rows_Few k set (w : Int) = some (fewB set.length w) := by
  have hm : maxI (set.length : Int) 1 = ((max set.length 1 : Nat) : Int) := by unfold maxI; split <;> omega
  obtain ⟨m, hmd⟩ : ∃ m, max set.length 1 = m := ⟨_, rfl⟩
  have hm1 : 1 ≤ m := by omega
  have hm2 : m ≤ 1000000 := by omega
  have key : ∀ d i k, i + d = w → d < k → m ^ i ≤ 5000 → rows_Few.l0 k ((m ^ i : Nat) : Int) (i : Int) set (w : Int) = some (if m ^ w ≤ 5000 then .inr () else .inl false) := by
    intro d
    induction d with
    | zero =>
      intro i k hi hk hp
      obtain ⟨k, rfl⟩ : ∃ m, k = m + 1 := ⟨k - 1, by omega⟩
      have : i = w := by omega
      subst this
      rw [rows_Few.l0, if_neg (by simp), if_pos hp]
    | succ d ih =>
      intro i k hi hk hp
      obtain ⟨k, rfl⟩ : ∃ m, k = m + 1 := ⟨k - 1, by omega⟩
      have hpp : m ^ i * m ≤ 5000 * 1000000 := Nat.mul_le_mul hp hm2
      have e : w64 (((m ^ i : Nat) : Int) * maxI (set.length : Int) 1) = ((m ^ (i + 1) : Nat) : Int) := by
        rw [hm, hmd, ← Int.natCast_mul, Nat.pow_succ, w64_id (by omega) (by omega)]
      have hle : m ^ (i + 1) ≤ m ^ w := Nat.pow_le_pow_right hm1 (by omega)
      obtain ⟨q, hq⟩ : ∃ q, m ^ (i + 1) = q := ⟨_, rfl⟩
      rw [rows_Few.l0, if_pos (by simp; omega), e]
      have hwi : w64 ((i : Int) + 1) = ((i + 1 : Nat) : Int) := by rw [w64_id (by omega) (by omega)]; rfl
      by_cases h5 : q ≤ 5000
      · rw [if_neg (by rw [hq]; simp; omega), hwi]
        exact ih (i + 1) k (by omega) (by omega) (by rw [hq]; exact h5)
      · rw [if_pos (by rw [hq]; simp; omega), if_neg]
        intro hw5
        omega
  have := key w 0 k (by omega) hk (by simp)
  have h0 : rows_Few.l0 k 1 0 set (w : Int) = _ := this
  unfold rows_Few fewB
  rw [h0, hmd]
  by_cases h5 : m ^ w ≤ 5000
  · rw [if_pos h5]; simp [sumb, h5]
  · rw [if_neg h5]; simp [sumb, h5]
end Gp
set_option linter.unusedVariables false
set_option linter.unusedSimpArgs false
namespace Gq
open Gw
theorem mget_mput {κ ν : Type} [DecidableEq κ] (x y : κ) (z v : ν) : ∀ l : List (κ × ν), mget x z (mput y v l) = if x = y then v else mget x z l
  | [] => by simp [mput, mget]
  | p :: r => by
    simp only [mput]
    by_cases h : y = p.1
    · rw [if_pos h]
      simp only [mget]
      by_cases hx : x = y
      · rw [if_pos hx, if_pos hx]
      · rw [if_neg hx, if_neg hx, if_neg (fun e => hx (e.trans h.symm))]
    · rw [if_neg h]
      simp only [mget]
      by_cases hx : x = p.1
      · rw [if_pos hx, if_pos hx, if_neg (fun e => h (e.symm.trans hx))]
      · rw [if_neg hx, if_neg hx]; exact mget_mput x y z v r
theorem mget_marks {α κ : Type} [DecidableEq κ] (key : α → κ) (c : α → Bool) (x : κ) : ∀ (l : List α) (m : List (κ × Bool)), mget x false (l.foldl (fun m a => if c a = true then mput (key a) true m else m) m) = (mget x false m || l.any fun a => decide (key a = x) && c a)
  | [], m => by simp
  | a :: r, m => by
    rw [List.foldl_cons, mget_marks key c x r, List.any_cons]
    cases hc : c a
    · simp
    · simp only [if_true, mget_mput, Bool.and_true]
      by_cases h : x = key a
      · simp [h]
      · have : ¬ key a = x := fun e => h e.symm
        simp [h, this]
end Gq
namespace Gp
open Gw Gq
/-! ### rectangles that are filled -/
theorem word_beq (a b : A8_Int) : (a.e0 == b.e0 && (a.e1 == b.e1 && (a.e2 == b.e2 && (a.e3 == b.e3 && (a.e4 == b.e4 && (a.e5 == b.e5 && (a.e6 == b.e6 && a.e7 == b.e7))))))) = decide (a = b) := by
  rw [Bool.eq_iff_iff, decide_eq_true_eq]
  simp only [Bool.and_eq_true, beq_iff_eq]
  constructor
  · rintro ⟨h0, h1, h2, h3, h4, h5, h6, h7⟩; cases a; cases b; simp_all
  · intro h; subst h; simp
def atB (l : List Int) (i : Nat) (c : Int) : Bool := decide (l.length = 0) || l.getD i 0 == c
theorem at_eq' (l : List Int) (i : Nat) (c : Int) (h : l.length = 0 ∨ i < l.length) : fill_at l (i : Int) c = some (atB l i c) := by
  unfold fill_at atB
  by_cases h0 : l.length = 0
  · rw [if_pos (by simp [h0])]; simp [h0]
  · rw [if_neg (by simp; simpa using h0), if_pos (by omega), rdD_nat]; simp [h0]
structure EdgeOK (e : Edges) (w h : Nat) : Prop where
  n : e.North.length = 0 ∨ e.North.length = w
  s : e.South.length = 0 ∨ e.South.length = w
  ea : e.East.length = 0 ∨ e.East.length = h
  we : e.West.length = 0 ∨ e.West.length = h
def colE (e : Edges) (h : Nat) (r : Row) (y x : Nat) : Bool := (!(decide (y = 0)) || atB e.South x (r.South.get x)) && (!(decide (y + 1 = h)) || atB e.North x (r.North.get x))
def alB (e : Edges) (w h : Nat) (r : Row) (y : Nat) : Bool := atB e.West y r.West && atB e.East y r.East && (List.range w).all (colE e h r y)
theorem allows_eq {e : Edges} {w h : Nat} (he : EdgeOK e w h) (hw : w ≤ 8) (hh : h ≤ 1000) (R : List Row) (r : Row) {y : Nat} (hy : y < h) {k : Nat} (hk : w < k) : fill_job_allows k ⟨R, w, h, e⟩ r (y : Int) = some (alB e w h r y) := by
  have hl := loop_all (F := fun k x (_ : Unit) => fill_job_allows.l0 k x ⟨R, w, h, e⟩ r (y : Int)) (S := fun _ => ()) (b := colE e h r y) (n := w) (K := 0) (r := false) (e := ()) (fun k x _ hx => by
    show fill_job_allows.l0 (k + 1) x ⟨R, w, h, e⟩ r (y : Int) = if colE e h r y x = true then fill_job_allows.l0 k ((x + 1 : Nat) : Int) ⟨R, w, h, e⟩ r (y : Int) else _
    have hwx : w64 ((x : Int) + 1) = ((x + 1 : Nat) : Int) := by rw [w64_id (by omega) (by omega)]; rfl
    have hwh : w64 ((h : Int) - 1) = ((h - 1 : Nat) : Int) := by rw [w64_id (by omega) (by omega)]; omega
    have hx8 : 0 ≤ (x : Int) ∧ (x : Int) < 8 := by omega
    have hS := at_eq' e.South x (r.South.get x) (he.s.imp id (fun h => by omega))
    have hN := at_eq' e.North x (r.North.get x) (he.n.imp id (fun h => by omega))
    rw [fill_job_allows.l0, if_pos (by simpa using hx), hwx, hwh]
    simp only [if_pos hx8, hS, hN, Option.bind_some]
    have e1 : ((y : Int) == ((h - 1 : Nat) : Int)) = decide (y + 1 = h) := by
      rw [Bool.eq_iff_iff]; simp; omega
    have e0 : ((y : Int) == 0) = decide (y = 0) := by rw [Bool.eq_iff_iff]; simp
    rw [e1, e0]
    unfold colE
    cases decide (y = 0) <;> cases decide (y + 1 = h) <;> cases atB e.South x (r.South.get x) <;> cases atB e.North x (r.North.get x) <;> simp) (fun k => by
    show fill_job_allows.l0 (k + 1) w ⟨R, w, h, e⟩ r (y : Int) = _
    rw [fill_job_allows.l0, if_neg (by simp)]) k (by omega)
  have h0 : fill_job_allows.l0 k 0 ⟨R, w, h, e⟩ r (y : Int) = some (if (List.range w).all (colE e h r y) = true then .inr () else .inl false) := hl
  unfold fill_job_allows alB
  rw [at_eq' e.West y r.West (he.we.imp id (fun h => by omega)), at_eq' e.East y r.East (he.ea.imp id (fun h => by omega)), h0]
  simp only [Option.bind_some]
  cases atB e.West y r.West <;> cases atB e.East y r.East <;> cases (List.range w).all (colE e h r y) <;> simp [sumb]
def canUp (R : List Row) (al : Row → Nat → Bool) (h : Nat) : Nat → Row → Bool
  | 0, r => al r (h - 1)
  | n + 1, r => al r (h - 1 - (n + 1)) && R.any fun r' => decide (r'.South = r.North) && canUp R al h n r'
def OkAt (R : List Row) (al : Row → Nat → Bool) (h : Nat) (ok : List (Option (List (A8_Int × Bool)))) (y : Nat) : Prop := ∃ m, ok[y]? = some (some m) ∧ ∀ s, mget s false m = R.any fun r => decide (r.South = s) && canUp R al h (h - 1 - y) r
theorem first_l3 {e : Edges} {w h : Nat} (he : EdgeOK e w h) (hw : w ≤ 8) (hh : h ≤ 1000) (R : List Row) (hR : R.length ≤ 1000000) {y : Nat} (hy : y < h) (ok : List (Option (List (A8_Int × Bool)))) (hlen : ok.length = h) (hup : y + 1 < h → OkAt R (alB e w h) h ok (y + 1)) {k : Nat} (hk : R.length + w + 1 < k) :
    fill_First.l3 k (ok.set y (some [])) 0 (h : Int) e ⟨R, w, h, e⟩ (y : Int) = some (ok.set y (some (R.foldl (fun m r => if canUp R (alB e w h) h (h - 1 - y) r = true then mput r.South true m else m) []))) := by
  have hwh : w64 ((h : Int) - 1) = ((h - 1 : Nat) : Int) := by rw [w64_id (by omega) (by omega)]; omega
  have hwy : w64 ((y : Int) + 1) = ((y + 1 : Nat) : Int) := by rw [w64_id (by omega) (by omega)]; rfl
  have hl := loop_list (F := fun k i (m : List (A8_Int × Bool)) => fill_First.l3 k (ok.set y (some m)) i (h : Int) e ⟨R, w, h, e⟩ (y : Int)) R (fun m r => if canUp R (alB e w h) h (h - 1 - y) r = true then mput r.South true m else m) (w + 1) (fun _ _ => True) (fun m => ok.set y (some m)) (fun k i m hi hk _ => by
    refine ⟨?_, trivial⟩
    show fill_First.l3 (k + 1) (ok.set y (some m)) i (h : Int) e ⟨R, w, h, e⟩ (y : Int) = _
    have hwi : w64 ((i : Int) + 1) = ((i + 1 : Nat) : Int) := by rw [w64_id (by omega) (by omega)]; rfl
    have hal : ∀ r, fill_job_allows k (Job.mk R w h e) r (y : Int) = some (alB e w h r y) := fun r => allows_eq he hw hh R r hy (by omega)
    rw [fill_First.l3, if_pos (by simpa using hi), if_pos (by simp; omega)]
    simp only [hal, rdD_get hi, hwh, hwy, hwi, Option.bind_some]
    have hcond : (if (((y : Int) == ((h - 1 : Nat) : Int)) = true) then (some (alB e w h R[i] y)) else ((if alB e w h R[i] y = true then (if 0 ≤ ((y + 1 : Nat) : Int) ∧ ((y + 1 : Nat) : Int) < ((ok.set y (some m)).length : Int) then ((rdD (ok.set y (some m)) ((y + 1 : Nat) : Int) none).bind fun m5799 => (some (mget R[i].North false m5799))) else none) else (some false)).bind fun b => some b)) = some (canUp R (alB e w h) h (h - 1 - y) R[i]) := by
      by_cases hlast : y + 1 = h
      · rw [if_pos (by simp; omega)]
        have : h - 1 - y = 0 := by omega
        rw [this, canUp, show h - 1 = y by omega]
      · rw [if_neg (by simp; omega), if_pos (show 0 ≤ ((y + 1 : Nat) : Int) ∧ ((y + 1 : Nat) : Int) < ((ok.set y (some m)).length : Int) by simp; omega), rdD_nat]
        obtain ⟨m', hm1, hm2⟩ := hup (by omega)
        have hg : (ok.set y (some m)).getD (y + 1) none = some m' := by
          rw [List.getD_eq_getElem?_getD, List.getElem?_set_ne (by omega), hm1]; rfl
        rw [hg, Option.bind_some, hm2]
        have : h - 1 - y = (h - 1 - (y + 1)) + 1 := by omega
        rw [this, canUp, show h - 1 - (h - 1 - (y + 1) + 1) = y by omega]
        cases alB e w h R[i] y <;> rfl
    have hc2 := hcond
    rw [hc2, Option.bind_some]
    have hg : rdD (ok.set y (some m)) (y : Int) none = some m := by
      rw [rdD_nat, List.getD_eq_getElem?_getD, List.getElem?_set_self (by omega)]; rfl
    rw [hg]
    cases hcu : canUp R (alB e w h) h (h - 1 - y) R[i]
    · simp
    · simp only [if_true]
      rw [if_pos (by simp; omega)]
      simp [List.set_set]) (fun k m _ => by
    show fill_First.l3 (k + 1) (ok.set y (some m)) R.length (h : Int) e ⟨R, w, h, e⟩ (y : Int) = _
    rw [fill_First.l3, if_neg (by simp)]) [] trivial k (by omega)
  exact hl
theorem first_l2 {e : Edges} {w h : Nat} (he : EdgeOK e w h) (hw : w ≤ 8) (hh : h ≤ 1000) (R : List Row) (hR : R.length ≤ 1000000) : ∀ (n : Nat) (ok : List (Option (List (A8_Int × Bool)))) (k : Nat), n ≤ h → ok.length = h → (∀ y, n ≤ y → y < h → OkAt R (alB e w h) h ok y) → R.length + w + n + 2 < k →
    ∃ ok', fill_First.l2 k ok ((n : Int) - 1) (h : Int) e ⟨R, w, h, e⟩ = some ok' ∧ ok'.length = h ∧ ∀ y, y < h → OkAt R (alB e w h) h ok' y := by
  intro n
  induction n with
  | zero =>
    intro ok k hn hl hok hk
    obtain ⟨k, rfl⟩ : ∃ m, k = m + 1 := ⟨k - 1, by omega⟩
    exact ⟨ok, by rw [fill_First.l2, if_neg (by simp)], hl, fun y hy => hok y (by omega) hy⟩
  | succ n ih =>
    intro ok k hn hl hok hk
    obtain ⟨k, rfl⟩ : ∃ m, k = m + 1 := ⟨k - 1, by omega⟩
    have e1 : (((n + 1 : Nat) : Int) - 1) = (n : Int) := by omega
    rw [e1, fill_First.l2, if_pos (by simp), if_pos (by omega)]
    have hwn : w64 ((n : Int) - 1) = (n : Int) - 1 := w64_id (by omega) (by omega)
    rw [Int.toNat_natCast, first_l3 he hw hh R hR (by omega) ok hl (fun h1 => hok (n + 1) (by omega) h1) (by omega), Option.bind_some, hwn]
    refine ih _ k (by omega) (by simpa using hl) (fun y hy1 hy2 => ?_) (by omega)
    by_cases hyn : y = n
    · subst hyn
      refine ⟨_, List.getElem?_set_self (by omega), fun s => ?_⟩
      rw [mget_marks]; simp [mget]
    · obtain ⟨m, h1, h2⟩ := hok y (by omega) hy2
      exact ⟨m, by rw [List.getElem?_set_ne (by omega)]; exact h1, h2⟩
def firstIdx {α : Type} (p : α → Bool) : Nat → List α → Int
  | _, [] => -1
  | i, a :: r => if p a = true then (i : Int) else firstIdx p (i + 1) r
def belowB (R : List Row) (b : Option Nat) (r : Row) : Bool := match b with
  | none => true
  | some i => decide ((R.getD i z_Row).North = r.South)
def bz (b : Option Nat) : Option Int := b.map fun (i : Nat) => (i : Int)
theorem first_l5 {e : Edges} {w h : Nat} (he : EdgeOK e w h) (hw : w ≤ 8) (hh : h ≤ 1000) (R : List Row) (hR : R.length ≤ 1000000) {y : Nat} (hy : y < h) (ok : List (Option (List (A8_Int × Bool)))) (hlen : ok.length = h) (hok : ∀ y, y < h → OkAt R (alB e w h) h ok y) (b : Option Nat) (hb : ∀ i, b = some i → i < R.length) {k : Nat} (hk : R.length + w < k) :
    fill_First.l5 k (bz b) 0 (h : Int) e ⟨R, w, h, e⟩ ok (y : Int) = some (firstIdx (fun r => canUp R (alB e w h) h (h - 1 - y) r && belowB R b r) 0 R) := by
  have hwh : w64 ((h : Int) - 1) = ((h - 1 : Nat) : Int) := by rw [w64_id (by omega) (by omega)]; omega
  have hwy : w64 ((y : Int) + 1) = ((y + 1 : Nat) : Int) := by rw [w64_id (by omega) (by omega)]; rfl
  have key : ∀ d i k, i + d = R.length → d + w < k → fill_First.l5 k (bz b) (i : Int) (h : Int) e ⟨R, w, h, e⟩ ok (y : Int) = some (firstIdx (fun r => canUp R (alB e w h) h (h - 1 - y) r && belowB R b r) i (R.drop i)) := by
    intro d
    induction d with
    | zero =>
      intro i k hi hk
      obtain ⟨k, rfl⟩ : ∃ m, k = m + 1 := ⟨k - 1, by omega⟩
      have : i = R.length := by omega
      subst this
      rw [fill_First.l5, if_neg (by simp), List.drop_length]; rfl
    | succ d ih =>
      intro i k hi hk
      obtain ⟨k, rfl⟩ : ∃ m, k = m + 1 := ⟨k - 1, by omega⟩
      have hlt : i < R.length := by omega
      have hwi : w64 ((i : Int) + 1) = ((i + 1 : Nat) : Int) := by rw [w64_id (by omega) (by omega)]; rfl
      have hal : ∀ r, fill_job_allows k (Job.mk R w h e) r (y : Int) = some (alB e w h r y) := fun r => allows_eq he hw hh R r hy (by omega)
      have hbel : optM (bz b) (some true) (fun j => if 0 ≤ j ∧ j < (R.length : Int) then (some ((((rdD R j z_Row).North).e0) == (R[i].South.e0) && ((((rdD R j z_Row).North).e1) == (R[i].South.e1) && ((((rdD R j z_Row).North).e2) == (R[i].South.e2) && ((((rdD R j z_Row).North).e3) == (R[i].South.e3) && ((((rdD R j z_Row).North).e4) == (R[i].South.e4) && ((((rdD R j z_Row).North).e5) == (R[i].South.e5) && ((((rdD R j z_Row).North).e6) == (R[i].South.e6) && (((rdD R j z_Row).North).e7) == (R[i].South.e7))))))))) else none) = some (belowB R b R[i]) := by
        cases b with
        | none => rfl
        | some j =>
          have := hb j rfl
          show (if 0 ≤ (j : Int) ∧ (j : Int) < (R.length : Int) then _ else none) = _
          rw [if_pos (by omega), rdD_nat, word_beq]; rfl
      rw [fill_First.l5, if_pos (by simpa using hlt), if_pos (by simp; omega)]
      simp only [hal, rdD_get hlt, hwh, hwy, hwi, Option.bind_some, hbel]
      rw [List.drop_eq_getElem_cons hlt, firstIdx]
      have hcond : (if (((y : Int) == ((h - 1 : Nat) : Int)) = true) then ((if alB e w h R[i] y = true then (some (belowB R b R[i])) else (some false)).bind fun b => some b) else ((if alB e w h R[i] y = true then (some (belowB R b R[i])) else (some false)).bind fun b5786 => (if b5786 = true then (if 0 ≤ ((y + 1 : Nat) : Int) ∧ ((y + 1 : Nat) : Int) < (ok.length : Int) then ((rdD ok ((y + 1 : Nat) : Int) none).bind fun m5799 => (some (mget R[i].North false m5799))) else none) else (some false)).bind fun b => some b)) = some (canUp R (alB e w h) h (h - 1 - y) R[i] && belowB R b R[i]) := by
        by_cases hlast : y + 1 = h
        · rw [if_pos (by simp; omega)]
          have : h - 1 - y = 0 := by omega
          rw [this, canUp, show h - 1 = y by omega]
          cases alB e w h R[i] y <;> simp
        · rw [if_neg (by simp; omega), if_pos (show 0 ≤ ((y + 1 : Nat) : Int) ∧ ((y + 1 : Nat) : Int) < (ok.length : Int) by omega), rdD_nat]
          obtain ⟨m', hm1, hm2⟩ := hok (y + 1) (by omega)
          have hg : ok.getD (y + 1) none = some m' := by rw [List.getD_eq_getElem?_getD, hm1]; rfl
          rw [hg, Option.bind_some, hm2]
          have : h - 1 - y = (h - 1 - (y + 1)) + 1 := by omega
          rw [this, canUp, show h - 1 - (h - 1 - (y + 1) + 1) = y by omega]
          cases alB e w h R[i] y <;> cases belowB R b R[i] <;> simp
      have hc2 := hcond
      rw [hc2, Option.bind_some]
      cases hcu : (canUp R (alB e w h) h (h - 1 - y) R[i] && belowB R b R[i])
      · simp only [Bool.false_eq_true, if_false]
        exact ih (i + 1) k (by omega) (by omega)
      · rfl
  have := key R.length 0 k (by omega) hk
  simpa using this
end Gp
set_option linter.unusedVariables false
set_option linter.unusedSimpArgs false
namespace Gp
open Gw Gq
theorem firstIdx_eq {α : Type} (p : α → Bool) : ∀ (l : List α) (i : Nat), firstIdx p i l = match l.findIdx? p with
    | none => -1
    | some j => ((i + j : Nat) : Int)
  | [], i => rfl
  | a :: r, i => by
    rw [firstIdx, List.findIdx?_cons]
    cases p a
    · simp only [Bool.false_eq_true, if_false]
      rw [firstIdx_eq p r (i + 1)]
      cases r.findIdx? p with
      | none => rfl
      | some j => simp only [Option.map_some]; congr 1; omega
    · simp
def greedy (R : List Row) (al : Row → Nat → Bool) (h : Nat) : Nat → Option Nat → Option (List Nat)
  | 0, _ => some []
  | m + 1, b => match R.findIdx? (fun r => canUp R al h m r && belowB R b r) with
    | none => none
    | some i => (greedy R al h m (some i)).map (i :: ·)
def cellsOf (R : List Row) (l : List Nat) : List Int := l.flatMap fun i => (R.getD i z_Row).Cells
def p0P : Pattern := ⟨0, 0, []⟩
theorem findIdx_lt {α : Type} {p : α → Bool} {l : List α} {i : Nat} (h : l.findIdx? p = some i) : ∃ hi : i < l.length, p l[i] = true := by
  rw [List.findIdx?_eq_some_iff_getElem] at h
  exact ⟨h.1, h.2.1⟩
theorem first_l4 {e : Edges} {w h : Nat} (he : EdgeOK e w h) (hw : w ≤ 8) (hh : h ≤ 1000) (R : List Row) (hR : R.length ≤ 1000000) (hC : ∀ r ∈ R, r.Cells.length ≤ 8) (ok : List (Option (List (A8_Int × Bool)))) (hlen : ok.length = h) (hok : ∀ y, y < h → OkAt R (alB e w h) h ok y) :
    ∀ (m : Nat) (cells : List Int) (b : Option Nat) (k : Nat), m ≤ h → (∀ i, b = some i → i < R.length) → cells.length + 8 * m ≤ 100000000000 → m + R.length + w + 1 < k →
      fill_First.l4 k cells (bz b) ((h - m : Nat) : Int) (h : Int) e ⟨R, w, h, e⟩ ok = some (match greedy R (alB e w h) h m b with
        | none => .inl (p0P, 6)
        | some l => .inr (cells ++ cellsOf R l)) := by
  intro m
  induction m with
  | zero =>
    intro cells b k hm hb hc hk
    obtain ⟨k, rfl⟩ : ∃ m, k = m + 1 := ⟨k - 1, by omega⟩
    rw [fill_First.l4, if_neg (by simp)]
    simp [greedy, cellsOf]
  | succ m ih =>
    intro cells b k hm hb hc hk
    obtain ⟨k, rfl⟩ : ∃ m, k = m + 1 := ⟨k - 1, by omega⟩
    have hwy : w64 (((h - (m + 1) : Nat) : Int) + 1) = ((h - m : Nat) : Int) := by rw [w64_id (by omega) (by omega)]; omega
    rw [fill_First.l4, if_pos (by simp; omega), first_l5 he hw hh R hR (y := h - (m + 1)) (by omega) ok hlen hok b hb (by omega), Option.bind_some, firstIdx_eq, greedy, show h - 1 - (h - (m + 1)) = m by omega]
    cases hf : R.findIdx? (fun r => canUp R (alB e w h) h m r && belowB R b r) with
    | none => simp [p0P]
    | some i =>
      obtain ⟨hi, _⟩ := findIdx_lt hf
      have hCi := hC R[i] (List.getElem_mem _)
      have hzi : ((0 + i : Nat) : Int) = (i : Int) := by omega
      simp only [hzi]
      rw [if_neg (by simp), if_pos (by omega), rdD_get hi, if_pos (by omega), hwy]
      have := ih (cells ++ R[i].Cells) (some i) k (by omega) (fun j hj => by injection hj with hj; omega) (by rw [List.length_append]; omega) (by omega)
      have this' : fill_First.l4 k (cells ++ R[i].Cells) (some (i : Int)) ((h - m : Nat) : Int) (h : Int) e ⟨R, w, h, e⟩ ok = _ := this
      rw [this']
      cases greedy R (alB e w h) h m (some i) with
      | none => rfl
      | some l =>
        simp only [Option.map_some]
        simp [cellsOf, List.getElem?_eq_getElem hi]
theorem canUp_greedy (R : List Row) (al : Row → Nat → Bool) (h : Nat) : ∀ (m : Nat) (i : Nat) (hi : i < R.length), canUp R al h m R[i] = true → greedy R al h m (some i) ≠ none
  | 0, i, hi, _ => by simp [greedy]
  | m + 1, i, hi, hc => by
    rw [canUp, Bool.and_eq_true, List.any_eq_true] at hc
    obtain ⟨_, r', hr', hc'⟩ := hc
    rw [Bool.and_eq_true, decide_eq_true_eq] at hc'
    rw [greedy]
    cases hf : R.findIdx? (fun r => canUp R al h m r && belowB R (some i) r) with
    | none =>
      rw [List.findIdx?_eq_none_iff] at hf
      have := hf r' hr'
      have hb : belowB R (some i) r' = true := by simp [belowB, List.getElem?_eq_getElem hi, hc'.1]
      rw [hc'.2, hb] at this; cases this
    | some j =>
      obtain ⟨hj, hp⟩ := findIdx_lt hf
      rw [Bool.and_eq_true] at hp
      have := canUp_greedy R al h m j hj hp.1
      cases hg : greedy R al h m (some j) with
      | none => exact absurd hg this
      | some l => simp [hg]
theorem greedy_none (R : List Row) (al : Row → Nat → Bool) (h m : Nat) : greedy R al h (m + 1) none = none ↔ ∀ r ∈ R, canUp R al h m r = false := by
  rw [greedy]
  constructor
  · intro hg r hr
    cases hf : R.findIdx? (fun r => canUp R al h m r && belowB R none r) with
    | none =>
      rw [List.findIdx?_eq_none_iff] at hf
      simpa [belowB] using hf r hr
    | some i =>
      exfalso
      obtain ⟨hi, hp⟩ := findIdx_lt hf
      rw [Bool.and_eq_true] at hp
      have := canUp_greedy R al h m i hi hp.1
      rw [hf] at hg
      cases hg2 : greedy R al h m (some i) with
      | none => exact this hg2
      | some l => simp only [hg2] at hg; cases hg
  · intro hn
    have hf : R.findIdx? (fun r => canUp R al h m r && belowB R none r) = none := by
      rw [List.findIdx?_eq_none_iff]; intro r hr; rw [hn r hr]; rfl
    rw [hf]
/-! the whole function -/
def sidesB (e : Edges) (w h : Int) : Bool := (decide (e.North.length = 0) || decide ((e.North.length : Int) = w)) && (decide (e.South.length = 0) || decide ((e.South.length : Int) = w)) && (decide (e.East.length = 0) || decide ((e.East.length : Int) = h)) && (decide (e.West.length = 0) || decide ((e.West.length : Int) = h))
theorem begin_l0 (e : Edges) (w h : Int) (k : Nat) : fill_begin.l0 (k + 5) 0 w h e = some (if sidesB e w h = true then .inr () else .inl (none, 2)) := by
  have hside : ∀ (l : List Int) (n : Int), ((((l.length : Int) != 0) && ((l.length : Int) != n)) = !(decide (l.length = 0) || decide ((l.length : Int) = n))) := fun l n => by
    rw [Bool.eq_iff_iff]; simp
  have h1 : w64 (0 + 1) = 1 := by rw [w64_id (by omega) (by omega)]; rfl
  have h2 : w64 (1 + 1) = 2 := by rw [w64_id (by omega) (by omega)]; rfl
  have h3 : w64 (2 + 1) = 3 := by rw [w64_id (by omega) (by omega)]; rfl
  have h4 : w64 (3 + 1) = 4 := by rw [w64_id (by omega) (by omega)]; rfl
  unfold sidesB
  rw [fill_begin.l0, if_pos (by simp), if_pos (by simp), show rdD [(S_side_n.mk e.North w), (S_side_n.mk e.South w), (S_side_n.mk e.East h), (S_side_n.mk e.West h)] 0 z_S_side_n = S_side_n.mk e.North w from rfl, h1, hside]
  cases ha : (decide (e.North.length = 0) || decide ((e.North.length : Int) = w))
  · simp
  rw [if_neg (by simp), fill_begin.l0, if_pos (by simp), if_pos (by simp), show rdD [(S_side_n.mk e.North w), (S_side_n.mk e.South w), (S_side_n.mk e.East h), (S_side_n.mk e.West h)] 1 z_S_side_n = S_side_n.mk e.South w from rfl, h2, hside]
  cases hb : (decide (e.South.length = 0) || decide ((e.South.length : Int) = w))
  · simp
  rw [if_neg (by simp), fill_begin.l0, if_pos (by simp), if_pos (by simp), show rdD [(S_side_n.mk e.North w), (S_side_n.mk e.South w), (S_side_n.mk e.East h), (S_side_n.mk e.West h)] 2 z_S_side_n = S_side_n.mk e.East h from rfl, h3, hside]
  cases hc : (decide (e.East.length = 0) || decide ((e.East.length : Int) = h))
  · simp
  rw [if_neg (by simp), fill_begin.l0, if_pos (by simp), if_pos (by simp), show rdD [(S_side_n.mk e.North w), (S_side_n.mk e.South w), (S_side_n.mk e.East h), (S_side_n.mk e.West h)] 3 z_S_side_n = S_side_n.mk e.West h from rfl, h4, hside]
  cases hd : (decide (e.West.length = 0) || decide ((e.West.length : Int) = h))
  · simp
  rw [if_neg (by simp), fill_begin.l0, if_neg (by simp)]
  simp
theorem max_pow {n w : Nat} (h : fewB n w = true) : n ^ w ≤ 5000 := by
  unfold fewB at h
  rw [decide_eq_true_eq] at h
  exact Nat.le_trans (Nat.pow_le_pow_left (Nat.le_max_left n 1) w) h
def firstX (set : List Tile) (w h : Nat) (e : Edges) : Pattern × Int := match greedy (allR set w) (alB e w h) h h none with
  | none => (p0P, 6)
  | some l => (⟨w, h, cellsOf (allR set w) l⟩, 0)
theorem allR_len (set : List Tile) (w : Nat) : (allR set w).length ≤ set.length ^ w := by
  unfold allR; rw [List.length_map]; exact rowsL_len set w []
theorem rowsL_length (set : List Tile) : ∀ (n : Nat) (c d : List Nat), d ∈ rowsL set n c → d.length = c.length + n
  | 0, c, d, h => by simp [rowsL] at h; subst h; rfl
  | n + 1, c, d, h => by
    rw [rowsL, List.mem_flatMap] at h
    obtain ⟨i, _, h⟩ := h
    have := rowsL_length set n _ d h
    simp at this; omega
theorem first_ok (set : List Tile) (w h : Nat) (e : Edges) (hv : validT set = true) (hw : 1 ≤ w ∧ w ≤ 8) (hh : 1 ≤ h ∧ h ≤ 60) (he : sidesB e w h = true) (hf : fewB set.length w = true) {k : Nat} (hk : 10000 < k) : fill_First k set w h e = some (firstX set w h e) := by
  have hl := valid_len hv
  have hp := max_pow hf
  have hRl := allR_len set w
  have heo : EdgeOK e w h := by
    unfold sidesB at he
    simp only [Bool.and_eq_true, Bool.or_eq_true, decide_eq_true_eq] at he
    exact ⟨he.1.1.1.imp id (fun h => by omega), he.1.1.2.imp id (fun h => by omega), he.1.2.imp id (fun h => by omega), he.2.imp id (fun h => by omega)⟩
  have hC : ∀ r ∈ allR set w, r.Cells.length ≤ 8 := by
    intro r hr
    unfold allR at hr
    obtain ⟨c, hc, rfl⟩ := List.mem_map.1 hr
    have := rowsL_length set w [] c hc
    simp [mkR, cz]; simp at this; omega
  obtain ⟨j, rfl⟩ : ∃ j, k = j + 5 := ⟨k - 5, by omega⟩
  unfold fill_First fill_begin
  rw [tile_valid set (by omega) (by omega), hv, Option.bind_some, if_neg (by simp), if_neg (by simp; omega), begin_l0, he, few_eq set w (by omega) (by omega) (by omega), hf, all_eq set w hw.1 hw.2 (by omega) (by omega) (by omega)]
  simp only [if_true, Option.bind_some, sumb, Bool.not_true, Bool.false_eq_true, if_false, optM, bne_self_eq_false]
  have hwh : w64 ((h : Int) - 1) = (h : Int) - 1 := w64_id (by omega) (by omega)
  rw [if_pos (by omega), Int.toNat_natCast, hwh]
  obtain ⟨ok', e1, l1, o1⟩ := first_l2 heo hw.2 (by omega) (allR set w) (by omega) h (List.replicate h none) (j + 5) (Nat.le_refl _) (by simp) (fun y h1 h2 => by omega) (by omega)
  rw [e1, Option.bind_some]
  have e2 := first_l4 heo hw.2 (by omega) (allR set w) (by omega) hC ok' l1 o1 h [] none (j + 5) (Nat.le_refl _) (fun i hi => by cases hi) (by simp; omega) (by omega)
  rw [Nat.sub_self] at e2
  have e2' : fill_First.l4 (j + 5) [] none 0 (h : Int) e ⟨allR set w, w, h, e⟩ ok' = _ := e2
  rw [e2', Option.bind_some]
  unfold firstX
  cases greedy (allR set w) (alB e w h) h h none with
  | none => rfl
  | some l => simp [sumb]
end Gp
set_option linter.unusedVariables false
set_option linter.unusedSimpArgs false
namespace Gp
open Gw Gq
/-! ### rows and patterns -/
theorem mem_rowsL0 (set : List Tile) : ∀ (n : Nat) (pre c : List Nat), c ∈ rowsL set n pre ↔ c.take pre.length = pre ∧ c.length = pre.length + n ∧ ∀ j, pre.length ≤ j → j < c.length → c.getD j 0 < set.length ∧ follows set (c.take j) (c.getD j 0) = true
  | 0, pre, c => by
    rw [rowsL, List.mem_singleton]
    constructor
    · intro h; subst h; exact ⟨List.take_length, rfl, fun j h1 h2 => by omega⟩
    · rintro ⟨h1, h2, _⟩
      rw [← h1, List.take_of_length_le (by omega)]
  | n + 1, pre, c => by
    rw [rowsL, List.mem_flatMap]
    constructor
    · rintro ⟨i, hi, hc⟩
      rw [List.mem_filter, List.mem_range] at hi
      obtain ⟨h1, h2, h3⟩ := (mem_rowsL0 set n (pre ++ [i]) c).1 hc
      rw [List.length_append, List.length_singleton] at h1 h2 h3
      have hp : c.take pre.length = pre := by
        have : c.take pre.length = (c.take (pre.length + 1)).take pre.length := by rw [List.take_take, Nat.min_eq_left (by omega)]
        rw [this, h1]; simp
      refine ⟨hp, by omega, fun j hj1 hj2 => ?_⟩
      by_cases e : j = pre.length
      · subst e
        have hg : c.getD pre.length 0 = i := by
          have h5 : (c.take (pre.length + 1))[pre.length]? = some i := by rw [h1]; simp
          rw [List.getElem?_take, if_pos (by omega)] at h5
          rw [List.getD_eq_getElem?_getD, h5]; rfl
        rw [hg, hp]; exact hi
      · exact h3 j (by omega) hj2
    · rintro ⟨h1, h2, h3⟩
      have hlt : pre.length < c.length := by omega
      obtain ⟨h4, h5⟩ := h3 pre.length (Nat.le_refl _) hlt
      rw [h1] at h5
      refine ⟨c.getD pre.length 0, ?_, (mem_rowsL0 set n _ c).2 ⟨?_, by simp; omega, fun j hj1 hj2 => h3 j (by simp at hj1; omega) hj2⟩⟩
      · rw [List.mem_filter, List.mem_range]; exact ⟨h4, h5⟩
      · rw [List.length_append, List.length_singleton, List.take_add_one, h1, List.getElem?_eq_getElem hlt]
        simp [List.getElem?_eq_getElem hlt]
structure RowOK (set : List Tile) (w : Nat) (c : List Nat) : Prop where
  len : c.length = w
  lt : ∀ x, x < w → c.getD x 0 < set.length
  adj : ∀ x, x + 1 < w → (tat set (c.getD x 0)).E = (tat set (c.getD (x + 1) 0)).W
theorem follows_take (set : List Tile) (c : List Nat) (j : Nat) (hj : j < c.length) (i : Nat) : follows set (c.take (j + 1)) i = ((tat set (c.getD j 0)).E == (tat set i).W) := by
  unfold follows
  have : (c.take (j + 1)).getLast? = some (c.getD j 0) := by
    have e : c.take (j + 1) = c.take j ++ [c[j]] := by rw [List.take_add_one, List.getElem?_eq_getElem hj]; rfl
    rw [e, List.getLast?_append]
    simp [List.getElem?_eq_getElem hj]
  rw [this]
theorem mem_rowsL (set : List Tile) (w : Nat) (c : List Nat) : c ∈ rowsL set w [] ↔ RowOK set w c := by
  rw [mem_rowsL0]
  constructor
  · rintro ⟨_, h2, h3⟩
    have hl : c.length = w := by simpa using h2
    refine ⟨hl, fun x hx => (h3 x (by simp) (by omega)).1, fun x hx => ?_⟩
    have := (h3 (x + 1) (by simp) (by omega)).2
    rw [follows_take set c x (by omega)] at this
    exact eq_of_beq this
  · rintro ⟨h1, h2, h3⟩
    refine ⟨by simp, by simp [h1], fun j _ hj => ⟨h2 j (by omega), ?_⟩⟩
    cases j with
    | zero => simp [follows]
    | succ j => rw [follows_take set c j (by omega), h3 j (by omega)]; simp
def sideN (set : List Tile) (c : List Nat) : List Int := c.map fun i => (tat set i).N
def sideS (set : List Tile) (c : List Nat) : List Int := c.map fun i => (tat set i).S
structure Fill (set : List Tile) (w h : Nat) (f : Nat → List Nat) : Prop where
  row : ∀ y, y < h → RowOK set w (f y)
  up : ∀ y, y + 1 < h → sideN set (f y) = sideS set (f (y + 1))
theorem canUp_iff (R : List Row) (al : Row → Nat → Bool) (h : Nat) : ∀ (n : Nat) (r : Row), n + 1 ≤ h → (canUp R al h n r = true ↔ ∃ g : Nat → Row, g 0 = r ∧ (∀ j, j ≤ n → al (g j) (h - 1 - n + j) = true) ∧ (∀ j, j < n → g (j + 1) ∈ R) ∧ ∀ j, j < n → (g (j + 1)).South = (g j).North)
  | 0, r, hn => by
    rw [canUp]
    constructor
    · intro h1; exact ⟨fun _ => r, rfl, fun j hj => by have : j = 0 := by omega
                                                       subst this; exact h1, fun j hj => by omega, fun j hj => by omega⟩
    · rintro ⟨g, rfl, h1, _, _⟩; exact h1 0 (Nat.le_refl _)
  | n + 1, r, hn => by
    rw [canUp, Bool.and_eq_true, List.any_eq_true]
    constructor
    · rintro ⟨h1, r', hr', h2⟩
      rw [Bool.and_eq_true, decide_eq_true_eq] at h2
      obtain ⟨g, rfl, g1, g2, g3⟩ := (canUp_iff R al h n r' (by omega)).1 h2.2
      refine ⟨fun j => if j = 0 then r else g (j - 1), rfl, fun j hj => ?_, fun j hj => ?_, fun j hj => ?_⟩
      · by_cases e : j = 0
        · subst e; simpa using h1
        · simp only [e, if_false]
          have := g1 (j - 1) (by omega)
          rwa [show h - 1 - n + (j - 1) = h - 1 - (n + 1) + j by omega] at this
      · simp only [Nat.add_sub_cancel, Nat.succ_ne_zero, if_false, Nat.add_eq_zero_iff, Nat.one_ne_zero, and_false]
        cases j with
        | zero => exact hr'
        | succ j => exact g2 j (by omega)
      · cases j with
        | zero => simpa using h2.1
        | succ j => simpa using g3 j (by omega)
    · rintro ⟨g, rfl, g1, g2, g3⟩
      refine ⟨by simpa using g1 0 (by omega), g 1, g2 0 (by omega), ?_⟩
      rw [Bool.and_eq_true, decide_eq_true_eq]
      refine ⟨g3 0 (by omega), (canUp_iff R al h n (g 1) (by omega)).2 ⟨fun j => g (j + 1), rfl, fun j hj => ?_, fun j hj => g2 (j + 1) (by omega), fun j hj => g3 (j + 1) (by omega)⟩⟩
      have := g1 (j + 1) (by omega)
      rwa [show h - 1 - (n + 1) + (j + 1) = h - 1 - n + j by omega] at this
theorem mem_allR (set : List Tile) (w : Nat) (r : Row) : r ∈ allR set w ↔ ∃ c, RowOK set w c ∧ r = mkR set c := by
  unfold allR
  rw [List.mem_map]
  constructor
  · rintro ⟨c, hc, rfl⟩; exact ⟨c, (mem_rowsL set w c).1 hc, rfl⟩
  · rintro ⟨c, hc, rfl⟩; exact ⟨c, (mem_rowsL set w c).2 hc, rfl⟩
theorem mkR_sides {set : List Tile} {w : Nat} (hw : w ≤ 8) {c d : List Nat} (hc : c.length = w) (hd : d.length = w) : (mkR set d).South = (mkR set c).North ↔ sideN set c = sideS set d := by
  show wordOf (sideS set d) = wordOf (sideN set c) ↔ _
  rw [wordOf_inj (by simp [sideS]; omega) (by simp [sideS, sideN]; omega)]
  exact eq_comm
theorem canUp_fill (set : List Tile) {w h : Nat} (hw : w ≤ 8) (hh : 1 ≤ h) (al : Row → Nat → Bool) : (∃ r ∈ allR set w, canUp (allR set w) al h (h - 1) r = true) ↔ ∃ f, Fill set w h f ∧ ∀ y, y < h → al (mkR set (f y)) y = true := by
  constructor
  · rintro ⟨r, hr, hc⟩
    obtain ⟨g, rfl, g1, g2, g3⟩ := (canUp_iff _ al h (h - 1) r (by omega)).1 hc
    have hg : ∀ y, y < h → g y ∈ allR set w := fun y hy => by
      cases y with
      | zero => exact hr
      | succ y => exact g2 y (by omega)
    have hex : ∀ y, ∃ c, y < h → RowOK set w c ∧ g y = mkR set c := fun y => by
      by_cases hy : y < h
      · obtain ⟨c, h1, h2⟩ := (mem_allR set w _).1 (hg y hy); exact ⟨c, fun _ => ⟨h1, h2⟩⟩
      · exact ⟨[], fun h => absurd h hy⟩
    obtain ⟨f, hf⟩ : ∃ f : Nat → List Nat, ∀ y, y < h → RowOK set w (f y) ∧ g y = mkR set (f y) := ⟨fun y => Classical.choose (hex y), fun y => Classical.choose_spec (hex y)⟩
    refine ⟨f, ⟨fun y hy => (hf y hy).1, fun y hy => ?_⟩, fun y hy => ?_⟩
    · have := g3 y (by omega)
      rw [(hf y (by omega)).2, (hf (y + 1) hy).2] at this
      exact (mkR_sides hw (hf y (by omega)).1.len (hf (y + 1) hy).1.len).1 this
    · have := g1 y (by omega)
      rw [(hf y hy).2] at this
      rwa [show h - 1 - (h - 1) + y = y by omega] at this
  · rintro ⟨f, hf, ha⟩
    refine ⟨mkR set (f 0), (mem_allR set w _).2 ⟨_, hf.row 0 (by omega), rfl⟩, (canUp_iff _ al h (h - 1) _ (by omega)).2 ⟨fun y => mkR set (f y), rfl, fun j hj => ?_, fun j hj => ?_, fun j hj => ?_⟩⟩
    · rw [show h - 1 - (h - 1) + j = j by omega]; exact ha j (by omega)
    · exact (mem_allR set w _).2 ⟨_, hf.row (j + 1) (by omega), rfl⟩
    · exact (mkR_sides hw (hf.row j (by omega)).len (hf.row (j + 1) (by omega)).len).2 (hf.up j (by omega))
def JPf (set : List Tile) (p : Pattern) (W H : Nat) : Prop := ((List.range (H * W)).all fun i => rightB set p W H false i && upB set p W H false i) = true
theorem jpf_iff {set : List Tile} {p : Pattern} {W H : Nat} (hW : 1 ≤ W) : JPf set p W H ↔ (∀ x y, x + 1 < W → y < H → (tl set p (y * W + x)).E = (tl set p (y * W + (x + 1))).W) ∧ ∀ x y, x < W → y + 1 < H → (tl set p (y * W + x)).N = (tl set p ((y + 1) * W + x)).S := by
  have q1 : ∀ y x, x < W → (y * W + x) % W = x := fun y x hx => by rw [Nat.mul_comm, Nat.mul_add_mod, Nat.mod_eq_of_lt hx]
  have q2 : ∀ y x, x < W → (y * W + x) / W = y := fun y x hx => by rw [Nat.mul_comm, Nat.mul_add_div (by omega), Nat.div_eq_of_lt hx]; omega
  unfold JPf
  simp only [List.all_eq_true, List.mem_range, Bool.and_eq_true]
  constructor
  · intro h
    refine ⟨fun x y hx hy => ?_, fun x y hx hy => ?_⟩
    · have := (h _ (place_lt (show x < W by omega) hy)).1
      unfold rightB at this
      rw [q1 y x (by omega), q2 y x (by omega), Nat.mod_eq_of_lt hx] at this
      simpa [hx] using this
    · have := (h _ (place_lt hx (show y < H by omega))).2
      unfold upB at this
      rw [q1 y x hx, q2 y x hx, Nat.mod_eq_of_lt hy] at this
      simpa [hy] using this
  · rintro ⟨h1, h2⟩ i hi
    have hx : i % W < W := Nat.mod_lt _ (by omega)
    have hy : i / W < H := Nat.div_lt_of_lt_mul (by rw [Nat.mul_comm]; exact hi)
    have ei : i / W * W + i % W = i := by rw [Nat.mul_comm, Nat.div_add_mod]
    unfold rightB upB
    constructor
    · by_cases hc : i % W + 1 < W
      · rw [Nat.mod_eq_of_lt hc]
        have := h1 (i % W) (i / W) hc hy
        rw [ei] at this
        simp [this]
      · simp [hc]
    · by_cases hc : i / W + 1 < H
      · rw [Nat.mod_eq_of_lt hc]
        have := h2 (i % W) (i / W) hx hc
        rw [ei] at this
        simp [this]
      · simp [hc]
def rowP (p : Pattern) (W w y : Nat) : List Nat := (List.range w).map fun x => (p.Cells.getD (y * W + x) 0).toNat
theorem rowP_get (p : Pattern) (W w y x : Nat) (hx : x < w) : (rowP p W w y).getD x 0 = (p.Cells.getD (y * W + x) 0).toNat := by
  simp [rowP, List.getElem?_map, List.getElem?_range hx]
theorem fill_of_pattern {set : List Tile} {p : Pattern} {W H : Nat} (f : PForm set p W H) (hj : JPf set p W H) {w h : Nat} (hw : w ≤ W) (hh : h ≤ H) : Fill set w h (rowP p W w) := by
  have hdW := f.dW
  obtain ⟨j1, j2⟩ := (jpf_iff hdW.1).1 hj
  have htl : ∀ x y, x < w → y < h → tat set ((rowP p W w y).getD x 0) = tl set p (y * W + x) := fun x y hx hy => by rw [rowP_get p W w y x hx]; rfl
  refine ⟨fun y hy => ⟨by simp [rowP], fun x hx => ?_, fun x hx => ?_⟩, fun y hy => ?_⟩
  · rw [rowP_get p W w y x hx]
    have := f.cel (y * W + x) (place_lt (by omega) (by omega))
    omega
  · rw [htl x y (by omega) hy, htl (x + 1) y hx hy]; exact j1 x y (by omega) (by omega)
  · apply List.ext_getElem
    · simp [sideN, sideS, rowP]
    · intro x h1 h2
      have hx : x < w := by simpa [sideN, rowP] using h1
      have e1 := htl x y hx (by omega)
      have e2 := htl x (y + 1) hx hy
      simp only [sideN, sideS, List.getElem_map]
      have g1 : (rowP p W w y)[x]'(by simpa [rowP] using hx) = (rowP p W w y).getD x 0 := by simp [List.getElem?_eq_getElem (show x < (rowP p W w y).length by simpa [rowP] using hx)]
      have g2 : (rowP p W w (y + 1))[x]'(by simpa [rowP] using hx) = (rowP p W w (y + 1)).getD x 0 := by simp [List.getElem?_eq_getElem (show x < (rowP p W w (y + 1)).length by simpa [rowP] using hx)]
      rw [g1, g2, e1, e2]
      exact j2 x y (by omega) (by omega)
def patR (w h : Nat) (f : Nat → List Nat) : Pattern := ⟨w, h, (List.range h).flatMap fun y => cz (f y)⟩
end Gp
set_option linter.unusedVariables false
set_option linter.unusedSimpArgs false
namespace Gp
open Gw Gq
/-! ### squares -/
def e0 : Edges := Edges.mk ([] : List Int) ([] : List Int) ([] : List Int) ([] : List Int)
theorem e0_sides (w h : Int) : sidesB e0 w h = true := by simp [sidesB, e0]
theorem e0_al (w h : Nat) (r : Row) (y : Nat) : alB e0 w h r y = true := by
  unfold alB colE
  simp [atB, e0]
theorem first_iff (set : List Tile) {w h : Nat} (e : Edges) (hw : w ≤ 8) (hh : 1 ≤ h) : (firstX set w h e).2 = 0 ↔ ∃ f, Fill set w h f ∧ ∀ y, y < h → alB e w h (mkR set (f y)) y = true := by
  rw [← canUp_fill set hw hh]
  unfold firstX
  obtain ⟨m, rfl⟩ : ∃ m, h = m + 1 := ⟨h - 1, by omega⟩
  have hn := greedy_none (allR set w) (alB e w (m + 1)) (m + 1) m
  cases hg : greedy (allR set w) (alB e w (m + 1)) (m + 1) (m + 1) none with
  | none =>
    simp only
    constructor
    · intro h; cases h
    · rintro ⟨r, hr, hc⟩
      have := hn.1 hg r hr
      rw [show m + 1 - 1 = m by omega] at hc
      rw [this] at hc; cases hc
  | some l =>
    simp only [true_iff]
    apply Classical.byContradiction
    intro hno
    have : greedy (allR set w) (alB e w (m + 1)) (m + 1) (m + 1) none = none := hn.2 (fun r hr => by
      cases hc : canUp (allR set w) (alB e w (m + 1)) (m + 1) m r
      · rfl
      · exact absurd ⟨r, hr, hc⟩ hno)
    rw [this] at hg; cases hg
def fillB (set : List Tile) (n : Nat) : Bool := (firstX set n n e0).2 == 0
theorem fillB_iff (set : List Tile) {n : Nat} (h1 : 1 ≤ n) (h8 : n ≤ 8) : fillB set n = true ↔ ∃ f, Fill set n n f := by
  unfold fillB
  rw [beq_iff_eq, first_iff set e0 h8 h1]
  exact ⟨fun ⟨f, hf, _⟩ => ⟨f, hf⟩, fun ⟨f, hf⟩ => ⟨f, hf, fun y _ => e0_al _ _ _ _⟩⟩
theorem exists_ok (set : List Tile) (n : Nat) (hv : validT set = true) (h1 : 1 ≤ n) (h8 : n ≤ 8) (hf : fewB set.length n = true) {k : Nat} (hk : 10000 < k) : square_Exists k set n = some (fillB set n, 0) := by
  have hl := valid_len hv
  unfold square_Exists square_check square_exists
  rw [tile_valid set (by omega) (by omega), hv, Option.bind_some, if_neg (by simp), if_neg (by simp; omega), few_eq set n (by omega) (by omega) (by omega), hf, Option.bind_some, if_neg (by simp), Option.bind_some, if_neg (by simp)]
  have := first_ok set n n e0 hv ⟨h1, h8⟩ ⟨h1, by omega⟩ (e0_sides _ _) hf hk
  unfold e0 at this
  rw [this]; rfl
end Gp
set_option linter.unusedVariables false
set_option linter.unusedSimpArgs false
namespace Gp
open Gw Gq
/-! ### tori -/
def ringL (set : List Tile) (w : Nat) : List Row := (allR set w).filter fun r => r.West == r.East
theorem foldl_filter {α : Type} (p : α → Bool) : ∀ (l acc : List α), l.foldl (fun a x => if p x = true then a ++ [x] else a) acc = acc ++ l.filter p
  | [], acc => by simp
  | x :: r, acc => by
    rw [List.foldl_cons, foldl_filter p r, List.filter_cons]
    cases p x <;> simp
theorem rings_eq (set : List Tile) (w : Nat) (h1 : 1 ≤ w) (h8 : w ≤ 8) (hl : set.length ≤ 1000000) (hf : set.length ^ w ≤ 1000000) {k : Nat} (hk : set.length + set.length ^ w + 20 < k) : torus_rings k set (w : Int) = some (ringL set w) := by
  have hR := allR_len set w
  unfold torus_rings
  rw [all_eq set w h1 h8 hl (by omega) (by omega), Option.bind_some]
  have := loop_list (F := fun k i (s : List Row) => torus_rings.l0 k s i (allR set w)) (allR set w) (fun a x => if (x.West == x.East) = true then a ++ [x] else a) 0 (fun i s => s.length ≤ i) id (fun k i s h _ hP => by
    have hwi : w64 ((i : Int) + 1) = ((i + 1 : Nat) : Int) := by rw [w64_id (by omega) (by omega)]; rfl
    constructor
    · show torus_rings.l0 (k + 1) s i (allR set w) = _
      rw [torus_rings.l0, if_pos (by simpa using h), if_pos (by omega), rdD_get h, hwi]
      cases hb : ((allR set w)[i].West == (allR set w)[i].East)
      · simp
      · simp only [if_true]; rw [if_pos (by omega)]; rfl
    · split
      · rw [List.length_append]; simp; omega
      · omega) (fun k s _ => by
    show torus_rings.l0 (k + 1) s (allR set w).length (allR set w) = _
    rw [torus_rings.l0, if_neg (by simp)]; rfl) [] (Nat.le_refl _) k (by omega)
  have h2 : torus_rings.l0 k [] 0 (allR set w) = some (id ((allR set w).foldl (fun a x => if (x.West == x.East) = true then a ++ [x] else a) [])) := this
  rw [h2, foldl_filter]; rfl
def nextM (l : List Row) (m : List (A8_Int × Bool)) : List (A8_Int × Bool) := l.foldl (fun acc r => if mget r.North false m = true then mput r.South true acc else acc) []
def itM (l : List Row) (t : A8_Int) : Nat → List (A8_Int × Bool)
  | 0 => mput t true []
  | n + 1 => nextM l (itM l t n)
def reachB (l : List Row) (t : A8_Int) : Nat → A8_Int → Bool
  | 0, s => decide (s = t)
  | n + 1, s => l.any fun r => decide (r.South = s) && reachB l t n r.North
theorem itM_get (l : List Row) (t : A8_Int) : ∀ (n : Nat) (s : A8_Int), mget s false (itM l t n) = reachB l t n s
  | 0, s => by
    simp only [itM, mput, mget, reachB]
    by_cases h : s = t <;> simp [h]
  | n + 1, s => by
    simp only [itM, nextM, reachB]
    rw [mget_marks (key := fun r : Row => r.South) (c := fun r => mget r.North false (itM l t n))]
    simp only [mget, Bool.false_or]
    congr 1
    funext r
    rw [itM_get l t n]
def backS (l : List Row) (t : A8_Int) (n : Nat) : List (Option (List (A8_Int × Bool))) := (List.range (n + 1)).map fun i => some (itM l t i)
theorem back_eq (l : List Row) (t : A8_Int) (n : Nat) (hl : l.length ≤ 1000000) (hn : n ≤ 1000) {k : Nat} (hk : l.length + n + 10 < k) : torus_back k l t (n : Int) = some (backS l t n) := by
  have hl1 : ∀ (m : List (A8_Int × Bool)) {k : Nat}, l.length < k → torus_back.l1 k [] 0 l m = some (nextM l m) := fun m k hk => by
    have := loop_list (F := fun k i (s : List (A8_Int × Bool)) => torus_back.l1 k s i l m) l (fun acc r => if mget r.North false m = true then mput r.South true acc else acc) 0 (fun _ _ => True) id (fun k i s h _ _ => by
      have hwi : w64 ((i : Int) + 1) = ((i + 1 : Nat) : Int) := by rw [w64_id (by omega) (by omega)]; rfl
      refine ⟨?_, trivial⟩
      show torus_back.l1 (k + 1) s i l m = _
      rw [torus_back.l1, if_pos (by simpa using h), if_pos (by omega), rdD_get h, hwi]
      cases hb : mget l[i].North false m <;> simp) (fun k s _ => by
      show torus_back.l1 (k + 1) s l.length l m = _
      rw [torus_back.l1, if_neg (by simp)]; rfl) [] trivial k (by omega)
    exact this
  have key : ∀ d i k, i + d = n → d + l.length + 5 < k → torus_back.l0 k (backS l t i) (i : Int) l (n : Int) = some (backS l t n) := by
    intro d
    induction d with
    | zero =>
      intro i k hi hk
      obtain ⟨k, rfl⟩ : ∃ m, k = m + 1 := ⟨k - 1, by omega⟩
      have : i = n := by omega
      subst this
      rw [torus_back.l0, if_neg (by simp)]
    | succ d ih =>
      intro i k hi hk
      obtain ⟨k, rfl⟩ : ∃ m, k = m + 1 := ⟨k - 1, by omega⟩
      have hbl : (backS l t i).length = i + 1 := by simp [backS]
      have hw : w64 (((backS l t i).length : Int) - 1) = (i : Int) := by rw [hbl, w64_id (by omega) (by omega)]; omega
      have hwi : w64 ((i : Int) + 1) = ((i + 1 : Nat) : Int) := by rw [w64_id (by omega) (by omega)]; rfl
      have hg : rdD (backS l t i) (i : Int) none = some (itM l t i) := by
        rw [rdD_get (by rw [hbl]; omega)]; simp [backS]
      rw [torus_back.l0, if_pos (by simp; omega), hw, if_pos (by rw [hbl]; omega), hg, Option.bind_some, hl1 _ (by omega), Option.bind_some, if_pos (by rw [hbl]; omega), hwi]
      have e : backS l t i ++ [some (nextM l (itM l t i))] = backS l t (i + 1) := by
        unfold backS; rw [map_succ _ (i + 1)]; rfl
      rw [e]
      exact ih (i + 1) k (by omega) (by omega)
  have := key n 0 k (by omega) (by omega)
  unfold torus_back
  have h0 : torus_back.l0 k [some (mput t true [])] 0 l (n : Int) = _ := this
  rw [h0]; rfl
def walkT (l : List Row) (t : A8_Int) : Nat → A8_Int → List Row
  | 0, _ => []
  | m + 1, s => match l.find? (fun r => decide (r.South = s) && reachB l t m r.North) with
    | none => walkT l t m s
    | some r => r :: walkT l t m r.North
def cellsR (l : List Row) : List Int := l.flatMap (·.Cells)
theorem find_l2 (l : List Row) (t : A8_Int) (n m : Nat) (hm : m ≤ n) (hl : l.length ≤ 1000000) (hn : n ≤ 1000) (hC : ∀ r ∈ l, r.Cells.length ≤ 8) (kn : List (A8_Int × List (Option (List (A8_Int × Bool))))) (cells : List Int) (s : A8_Int) (hc : cells.length ≤ 1000000) {k : Nat} (hk : l.length < k) :
    torus_find.l2 k 0 l (kn, backS l t n) cells s (m : Int) = some (match l.find? (fun r => decide (r.South = s) && reachB l t m r.North) with
      | none => (cells, s)
      | some r => (cells ++ r.Cells, r.North)) := by
  have hbl : (backS l t n).length = n + 1 := by simp [backS]
  have hg : rdD (backS l t n) (m : Int) none = some (itM l t m) := by rw [rdD_get (by rw [hbl]; omega)]; simp [backS]
  have key : ∀ d i k, i + d = l.length → d < k → torus_find.l2 k (i : Int) l (kn, backS l t n) cells s (m : Int) = some (match (l.drop i).find? (fun r => decide (r.South = s) && reachB l t m r.North) with
      | none => (cells, s)
      | some r => (cells ++ r.Cells, r.North)) := by
    intro d
    induction d with
    | zero =>
      intro i k hi hk
      obtain ⟨k, rfl⟩ : ∃ m, k = m + 1 := ⟨k - 1, by omega⟩
      have : i = l.length := by omega
      subst this
      rw [torus_find.l2, if_neg (by simp), List.drop_length]; rfl
    | succ d ih =>
      intro i k hi hk
      obtain ⟨k, rfl⟩ : ∃ m, k = m + 1 := ⟨k - 1, by omega⟩
      have hlt : i < l.length := by omega
      have hwi : w64 ((i : Int) + 1) = ((i + 1 : Nat) : Int) := by rw [w64_id (by omega) (by omega)]; rfl
      rw [torus_find.l2, if_pos (by simpa using hlt), if_pos (by omega), rdD_get hlt, hwi, word_beq, hg, if_pos (show 0 ≤ (m : Int) ∧ (m : Int) < ((backS l t n).length : Int) by rw [hbl]; omega), Option.bind_some, itM_get, List.drop_eq_getElem_cons hlt, List.find?_cons]
      have hCi := hC l[i] (List.getElem_mem _)
      have e1 : (if decide (l[i].South = s) = true then some (reachB l t m l[i].North) else some false) = some (decide (l[i].South = s) && reachB l t m l[i].North) := by cases decide (l[i].South = s) <;> rfl
      rw [e1, Option.bind_some]
      cases decide (l[i].South = s) && reachB l t m l[i].North
      · simp only [Bool.false_eq_true, if_false]
        exact ih (i + 1) k (by omega) (by omega)
      · simp only [if_true]; rw [if_pos (by omega)]
  have := key l.length 0 k (by omega) hk
  simpa using this
theorem find_l1 (l : List Row) (t : A8_Int) (n : Nat) (hl : l.length ≤ 1000000) (hn : n ≤ 1000) (hC : ∀ r ∈ l, r.Cells.length ≤ 8) (kn : List (A8_Int × List (Option (List (A8_Int × Bool))))) : ∀ (m : Nat) (cells : List Int) (s : A8_Int) (k : Nat), m ≤ n + 1 → cells.length + 8 * m ≤ 1000000 → m + l.length + 1 < k →
    torus_find.l1 k cells s ((m : Int) - 1) l (kn, backS l t n) = some (cells ++ cellsR (walkT l t m s)) := by
  intro m
  induction m with
  | zero =>
    intro cells s k _ hc hk
    obtain ⟨k, rfl⟩ : ∃ m, k = m + 1 := ⟨k - 1, by omega⟩
    rw [torus_find.l1, if_neg (by simp)]; simp [walkT, cellsR]
  | succ m ih =>
    intro cells s k hm hc hk
    obtain ⟨k, rfl⟩ : ∃ m, k = m + 1 := ⟨k - 1, by omega⟩
    have e1 : (((m + 1 : Nat) : Int) - 1) = (m : Int) := by omega
    have hw : w64 ((m : Int) - 1) = (m : Int) - 1 := w64_id (by omega) (by omega)
    rw [e1, torus_find.l1, if_pos (by simp), find_l2 l t n m (by omega) hl hn hC kn cells s (by omega) (by omega), Option.bind_some, walkT, hw]
    cases hf : l.find? (fun r => decide (r.South = s) && reachB l t m r.North) with
    | none => exact ih cells s k (by omega) (by omega) (by omega)
    | some r =>
      have hCr := hC r (List.mem_of_find?_eq_some hf)
      simp only
      rw [ih (cells ++ r.Cells) r.North k (by omega) (by rw [List.length_append]; omega) (by omega)]
      simp [cellsR]
def findS (l : List Row) (h : Nat) : Option (List Row) := (l.find? fun f => reachB l f.South (h - 1) f.North).map fun f => f :: walkT l f.South (h - 1) f.North
def KnownOK (l : List Row) (h : Nat) (kn : List (A8_Int × List (Option (List (A8_Int × Bool))))) : Prop := ∀ s, mhas s kn = true → mget s [] kn = backS l s (h - 1)
theorem mhas_mput {κ ν : Type} [DecidableEq κ] (x y : κ) (v : ν) : ∀ l : List (κ × ν), mhas x (mput y v l) = (decide (x = y) || mhas x l)
  | [] => by simp [mput, mhas]
  | p :: r => by
    simp only [mput]
    by_cases h : y = p.1
    · rw [if_pos h]
      simp only [mhas]
      by_cases hx : x = y
      · simp [hx]
      · have : ¬ x = p.1 := fun e => hx (e.trans h.symm)
        simp [hx, this]
    · rw [if_neg h]
      simp only [mhas]
      by_cases hx : x = p.1
      · simp [hx]
      · rw [if_neg hx, if_neg hx]; exact mhas_mput x y v r
theorem find_l0 (l : List Row) (w h : Nat) (h1 : 1 ≤ h) (hh : h ≤ 100) (hl : l.length ≤ 1000000) (hC : ∀ r ∈ l, r.Cells.length ≤ 8) : ∀ (d i : Nat) (kn : List (A8_Int × List (Option (List (A8_Int × Bool))))) (k : Nat), i + d = l.length → KnownOK l h kn → d + l.length + h + 20 < k →
    torus_find.l0 k kn (i : Int) (w : Int) (h : Int) l = some (match (l.drop i).find? (fun f => reachB l f.South (h - 1) f.North) with
      | none => .inr ()
      | some f => .inl (⟨w, h, cellsR (f :: walkT l f.South (h - 1) f.North)⟩, true)) := by
  have hw1 : w64 ((h : Int) - 1) = ((h - 1 : Nat) : Int) := by rw [w64_id (by omega) (by omega)]; omega
  have hw2 : w64 ((h : Int) - 2) = ((h - 1 : Nat) : Int) - 1 := by rw [w64_id (by omega) (by omega)]; omega
  intro d
  induction d with
  | zero =>
    intro i kn k hi hkn hk
    obtain ⟨k, rfl⟩ : ∃ m, k = m + 1 := ⟨k - 1, by omega⟩
    have : i = l.length := by omega
    subst this
    rw [torus_find.l0, if_neg (by simp), List.drop_length]; rfl
  | succ d ih =>
    intro i kn k hi hkn hk
    obtain ⟨k, rfl⟩ : ∃ m, k = m + 1 := ⟨k - 1, by omega⟩
    have hlt : i < l.length := by omega
    have hwi : w64 ((i : Int) + 1) = ((i + 1 : Nat) : Int) := by rw [w64_id (by omega) (by omega)]; rfl
    have hCi := hC l[i] (List.getElem_mem _)
    have hbl : (backS l l[i].South (h - 1)).length = h := by simp [backS]; omega
    have hg : rdD (backS l l[i].South (h - 1)) ((h - 1 : Nat) : Int) none = some (itM l l[i].South (h - 1)) := by rw [rdD_get (by rw [hbl]; omega)]; simp [backS]
    have hkn' : ∃ kn', KnownOK l h kn' ∧ (if (!(mhas l[i].South kn)) = true then ((torus_back k l l[i].South (w64 ((h : Int) - 1))).bind fun t => some (mput l[i].South t kn, t)) else (some (kn, (mget l[i].South [] kn)))) = some (kn', backS l l[i].South (h - 1)) := by
      cases hm : mhas l[i].South kn
      · refine ⟨mput l[i].South (backS l l[i].South (h - 1)) kn, fun s hs => ?_, ?_⟩
        · rw [mget_mput]
          by_cases hx : s = l[i].South
          · rw [if_pos hx, hx]
          · rw [if_neg hx]
            rw [mhas_mput] at hs
            simp [hx] at hs
            exact hkn s hs
        · rw [if_pos (by simp), hw1, back_eq l l[i].South (h - 1) hl (by omega) (by omega)]; rfl
      · exact ⟨kn, hkn, by rw [if_neg (by simp), hkn _ hm]⟩
    obtain ⟨kn', hk1, hk2⟩ := hkn'
    rw [torus_find.l0, if_pos (by simpa using hlt), if_pos (by omega), rdD_get hlt, hk2, Option.bind_some, hw1, hw2]
    simp only
    rw [if_pos (by rw [hbl]; omega), hg, Option.bind_some, itM_get, List.drop_eq_getElem_cons hlt, List.find?_cons, hwi]
    cases hr : reachB l l[i].South (h - 1) l[i].North
    · simp only [Bool.not_false, if_true, Bool.false_eq_true, if_false]
      exact ih (i + 1) kn' k (by omega) hk1 (by omega)
    · rw [if_neg (by simp), if_pos (by simp; omega), find_l1 l l[i].South (h - 1) hl (by omega) hC kn' (h - 1) _ _ k (by omega) (by simp; omega) (by omega)]
      simp [cellsR]
theorem find_eq (set : List Tile) (w h : Nat) (hw : 1 ≤ w ∧ w ≤ 8) (hh : 1 ≤ h ∧ h ≤ 100) (hl : set.length ≤ 1000) (hf : set.length ^ w ≤ 100000) {k : Nat} (hk : 300000 < k) : torus_find k set w h = some (match findS (ringL set w) h with
    | none => (p0P, false)
    | some l => (⟨w, h, cellsR l⟩, true)) := by
  have hR := allR_len set w
  have hrl : (ringL set w).length ≤ set.length ^ w := Nat.le_trans (List.length_filter_le _ _) hR
  have hC : ∀ r ∈ ringL set w, r.Cells.length ≤ 8 := by
    intro r hr
    unfold ringL at hr
    rw [List.mem_filter] at hr
    obtain ⟨c, hc, rfl⟩ := (mem_allR set w r).1 hr.1
    have := hc.len
    simp [mkR, cz]; omega
  unfold torus_find
  rw [rings_eq set w hw.1 hw.2 (by omega) (by omega) (by omega), Option.bind_some]
  have := find_l0 (ringL set w) w h hh.1 hh.2 (by omega) hC (ringL set w).length 0 [] k (by omega) (fun s hs => by cases hs) (by omega)
  have h0 : torus_find.l0 k [] 0 (w : Int) (h : Int) (ringL set w) = _ := this
  rw [h0, Option.bind_some, List.drop_zero]
  unfold findS
  cases (ringL set w).find? (fun f => reachB (ringL set w) f.South (h - 1) f.North) <;> rfl
end Gp
set_option linter.unusedVariables false
set_option linter.unusedSimpArgs false
namespace Gp
open Gw Gq
structure TorF (set : List Tile) (w h : Nat) (f : Nat → List Nat) : Prop where
  fill : Fill set w h f
  ring : ∀ y, y < h → (tat set ((f y).getD (w - 1) 0)).E = (tat set ((f y).getD 0 0)).W
  top : sideN set (f (h - 1)) = sideS set (f 0)
theorem walk_path (l : List Row) (t : A8_Int) : ∀ (m : Nat) (s : A8_Int), reachB l t m s = true → (walkT l t m s).length = m ∧ (∀ r ∈ walkT l t m s, r ∈ l) ∧ ∃ b : Nat → A8_Int, b 0 = s ∧ b m = t ∧ ∀ j, j < m → ((walkT l t m s).getD j z_Row).South = b j ∧ ((walkT l t m s).getD j z_Row).North = b (j + 1)
  | 0, s, h => by
    simp only [reachB, decide_eq_true_eq] at h
    subst h
    exact ⟨rfl, fun r hr => by simp [walkT] at hr, fun _ => s, rfl, rfl, fun j hj => by omega⟩
  | m + 1, s, h => by
    rw [reachB, List.any_eq_true] at h
    obtain ⟨r0, hr0, h0⟩ := h
    cases hf : l.find? (fun r => decide (r.South = s) && reachB l t m r.North) with
    | none =>
      rw [List.find?_eq_none] at hf
      exact absurd h0 (hf r0 hr0)
    | some r =>
      have hp := List.find?_some hf
      have hm := List.mem_of_find?_eq_some hf
      simp only [Bool.and_eq_true, decide_eq_true_eq] at hp
      obtain ⟨h1, h2, b, b0, bm, hb⟩ := walk_path l t m r.North hp.2
      have e : walkT l t (m + 1) s = r :: walkT l t m r.North := by rw [walkT, hf]
      rw [e]
      refine ⟨by simp [h1], fun q hq => ?_, fun j => if j = 0 then s else b (j - 1), rfl, by simpa using bm, fun j hj => ?_⟩
      · rcases List.mem_cons.1 hq with rfl | hq
        · exact hm
        · exact h2 q hq
      · cases j with
        | zero => exact ⟨by simpa using hp.1, by simpa using b0.symm⟩
        | succ j => simpa using hb j (by omega)
theorem reach_of_path (l : List Row) : ∀ (m : Nat) (b : Nat → A8_Int), (∀ j, j < m → ∃ r ∈ l, r.South = b j ∧ r.North = b (j + 1)) → reachB l (b m) m (b 0) = true
  | 0, b, _ => by simp [reachB]
  | m + 1, b, h => by
    rw [reachB, List.any_eq_true]
    obtain ⟨r, hr, h1, h2⟩ := h 0 (by omega)
    refine ⟨r, hr, ?_⟩
    have := reach_of_path l m (fun j => b (j + 1)) (fun j hj => h (j + 1) (by omega))
    rw [Bool.and_eq_true, decide_eq_true_eq, h2]
    exact ⟨h1, this⟩
theorem mem_ringL (set : List Tile) {w : Nat} (h1 : 1 ≤ w) (r : Row) : r ∈ ringL set w ↔ ∃ c, RowOK set w c ∧ (tat set (c.getD (w - 1) 0)).E = (tat set (c.getD 0 0)).W ∧ r = mkR set c := by
  unfold ringL
  rw [List.mem_filter, mem_allR]
  have key : ∀ c, RowOK set w c → ((mkR set c).West == (mkR set c).East) = decide ((tat set (c.getD (w - 1) 0)).E = (tat set (c.getD 0 0)).W) := fun c hc => by
    have hl := hc.len
    have e1 : c.headD 0 = c.getD 0 0 := by cases c <;> rfl
    have e2 : c.getLastD 0 = c.getD (w - 1) 0 := by
      have hn : c ≠ [] := by intro e; rw [e] at hl; simp at hl; omega
      rw [List.getLastD_eq_getLast?, List.getLast?_eq_some_getLast hn, Option.getD_some, List.getLast_eq_getElem]
      simp [hl, List.getElem?_eq_getElem (show w - 1 < c.length by omega)]
    show ((tat set (c.headD 0)).W == (tat set (c.getLastD 0)).E) = _
    rw [e1, e2, Bool.eq_iff_iff]
    simp only [beq_iff_eq, decide_eq_true_eq]
    exact eq_comm
  constructor
  · rintro ⟨⟨c, hc, rfl⟩, h⟩
    rw [key c hc, decide_eq_true_eq] at h
    exact ⟨c, hc, h, rfl⟩
  · rintro ⟨c, hc, h, rfl⟩
    exact ⟨⟨c, hc, rfl⟩, by rw [key c hc]; exact decide_eq_true h⟩
theorem word_sides {set : List Tile} {w : Nat} (hw : w ≤ 8) {c d : List Nat} (hc : c.length = w) (hd : d.length = w) : (mkR set c).North = (mkR set d).South ↔ sideN set c = sideS set d := by
  rw [← mkR_sides hw hc hd]; exact eq_comm
theorem find_none {set : List Tile} {w h : Nat} (hw : 1 ≤ w ∧ w ≤ 8) (hh : 1 ≤ h) (hn : findS (ringL set w) h = none) (f : Nat → List Nat) : ¬ TorF set w h f := by
  intro hf
  unfold findS at hn
  rw [Option.map_eq_none_iff, List.find?_eq_none] at hn
  have hmem : ∀ y, y < h → mkR set (f y) ∈ ringL set w := fun y hy => (mem_ringL set hw.1 _).2 ⟨_, hf.fill.row y hy, hf.ring y hy, rfl⟩
  have hlen : ∀ y, y < h → (f y).length = w := fun y hy => (hf.fill.row y hy).len
  have := hn _ (hmem 0 (by omega))
  apply this
  have hb := reach_of_path (ringL set w) (h - 1) (fun j => (mkR set (f j)).North) (fun j hj => ⟨mkR set (f (j + 1)), hmem (j + 1) (by omega), ((word_sides hw.2 (hlen j (by omega)) (hlen (j + 1) (by omega))).2 (hf.fill.up j (by omega))).symm, rfl⟩)
  have ht : (mkR set (f (h - 1))).North = (mkR set (f 0)).South := (word_sides hw.2 (hlen _ (by omega)) (hlen 0 (by omega))).2 hf.top
  have hb' : reachB (ringL set w) (mkR set (f (h - 1))).North (h - 1) (mkR set (f 0)).North = true := hb
  rw [ht] at hb'
  exact hb'
theorem find_some {set : List Tile} {w h : Nat} (hw : 1 ≤ w ∧ w ≤ 8) (hh : 1 ≤ h) {l : List Row} (hn : findS (ringL set w) h = some l) : ∃ f, TorF set w h f ∧ (⟨w, h, cellsR l⟩ : Pattern) = patR w h f := by
  unfold findS at hn
  rw [Option.map_eq_some_iff] at hn
  obtain ⟨r0, hf, rfl⟩ := hn
  have hp := List.find?_some hf
  have hm := List.mem_of_find?_eq_some hf
  obtain ⟨h1, h2, b, b0, bm, hb⟩ := walk_path _ _ _ _ hp
  obtain ⟨L, hL⟩ : ∃ L, r0 :: walkT (ringL set w) r0.South (h - 1) r0.North = L := ⟨_, rfl⟩
  have hlen : L.length = h := by rw [← hL]; simp [h1]; omega
  have hLm : ∀ r ∈ L, r ∈ ringL set w := by
    rw [← hL]; intro r hr
    rcases List.mem_cons.1 hr with rfl | hr
    · exact hm
    · exact h2 r hr
  have hex : ∀ y, ∃ c, y < h → RowOK set w c ∧ (tat set (c.getD (w - 1) 0)).E = (tat set (c.getD 0 0)).W ∧ L.getD y z_Row = mkR set c := fun y => by
    by_cases hy : y < h
    · have : L.getD y z_Row ∈ ringL set w := by
        rw [List.getD_eq_getElem?_getD, List.getElem?_eq_getElem (by omega)]; exact hLm _ (List.getElem_mem _)
      obtain ⟨c, h1, h2, h3⟩ := (mem_ringL set hw.1 _).1 this
      exact ⟨c, fun _ => ⟨h1, h2, h3⟩⟩
    · exact ⟨[], fun h => absurd h hy⟩
  obtain ⟨f, hfy⟩ : ∃ f : Nat → List Nat, ∀ y, y < h → RowOK set w (f y) ∧ (tat set ((f y).getD (w - 1) 0)).E = (tat set ((f y).getD 0 0)).W ∧ L.getD y z_Row = mkR set (f y) := ⟨fun y => Classical.choose (hex y), fun y => Classical.choose_spec (hex y)⟩
  -- the words between the rows
  have hwd : ∀ j, j < h → (L.getD j z_Row).North = b j ∧ (j + 1 < h → (L.getD (j + 1) z_Row).South = b j) := fun j hj => by
    constructor
    · cases j with
      | zero => rw [← hL]; exact b0.symm
      | succ j =>
        have := (hb j (by omega)).2
        rw [← hL]; simpa using this
    · intro hj1
      have := (hb j (by omega)).1
      rw [← hL]; simpa using this
  refine ⟨f, ⟨⟨fun y hy => (hfy y hy).1, fun y hy => ?_⟩, fun y hy => (hfy y hy).2.1, ?_⟩, ?_⟩
  · have e1 := (hwd y (by omega)).1
    have e2 := (hwd y (by omega)).2 hy
    rw [(hfy y (by omega)).2.2] at e1
    rw [(hfy (y + 1) hy).2.2] at e2
    exact (word_sides hw.2 (hfy y (by omega)).1.len (hfy (y + 1) hy).1.len).1 (e1.trans e2.symm)
  · have e1 := (hwd (h - 1) (by omega)).1
    rw [(hfy (h - 1) (by omega)).2.2, bm] at e1
    have e2 : L.getD 0 z_Row = r0 := by rw [← hL]; rfl
    rw [← e2, (hfy 0 (by omega)).2.2] at e1
    exact (word_sides hw.2 (hfy (h - 1) (by omega)).1.len (hfy 0 (by omega)).1.len).1 e1
  · unfold patR
    congr 1
    unfold cellsR
    have : L = (List.range h).map fun y => L.getD y z_Row := by
      apply List.ext_getElem
      · simp [hlen]
      · intro n a b'; simp [List.getElem?_eq_getElem a]
    rw [hL, this, List.flatMap_map]
    have key : ∀ M : List Nat, (∀ y ∈ M, y < h) → (M.flatMap fun y => (L.getD y z_Row).Cells) = M.flatMap fun y => cz (f y) := by
      intro M
      induction M with
      | nil => intro _; rfl
      | cons y M ih =>
        intro hM
        rw [List.flatMap_cons, List.flatMap_cons, ih (fun z hz => hM z (by simp [hz])), (hfy y (hM y (by simp))).2.2]; rfl
    exact key (List.range h) (fun y hy => List.mem_range.1 hy)
/-! tori and patterns -/
def JPt (set : List Tile) (p : Pattern) (W H : Nat) : Prop := ((List.range (H * W)).all fun i => rightB set p W H true i && upB set p W H true i) = true
theorem tor_of_pattern {set : List Tile} {p : Pattern} {W H : Nat} (f : PForm set p W H) (hj : JPt set p W H) : TorF set W H (rowP p W W) := by
  have hdW := f.dW
  have hdH := f.dH
  unfold JPt at hj
  rw [round_iff f] at hj
  simp only [Bool.and_eq_true] at hj
  obtain ⟨⟨j1, j2⟩, j3⟩ := hj
  simp only [List.all_eq_true, List.mem_range, beq_iff_eq] at j2 j3
  have hfill := fill_of_pattern f j1 (w := W) (h := H) (Nat.le_refl _) (Nat.le_refl _)
  have htl : ∀ x y, x < W → y < H → tat set ((rowP p W W y).getD x 0) = tl set p (y * W + x) := fun x y hx hy => by rw [rowP_get p W W y x hx]; rfl
  refine ⟨hfill, fun y hy => ?_, ?_⟩
  · rw [htl (W - 1) y (by omega) hy, htl 0 y (by omega) hy]; exact j2 y hy
  · apply List.ext_getElem
    · simp [sideN, sideS, rowP]
    · intro x h1 h2
      have hx : x < W := by simpa [sideN, rowP] using h1
      have e1 := htl x (H - 1) hx (by omega)
      have e2 := htl x 0 hx (by omega)
      simp only [sideN, sideS, List.getElem_map]
      have g1 : (rowP p W W (H - 1))[x]'(by simpa [rowP] using hx) = (rowP p W W (H - 1)).getD x 0 := by simp [List.getElem?_eq_getElem (show x < (rowP p W W (H - 1)).length by simpa [rowP] using hx)]
      have g2 : (rowP p W W 0)[x]'(by simpa [rowP] using hx) = (rowP p W W 0).getD x 0 := by simp [List.getElem?_eq_getElem (show x < (rowP p W W 0).length by simpa [rowP] using hx)]
      rw [g1, g2, e1, e2]
      exact j3 x hx
def repF (w h : Nat) (f : Nat → List Nat) (n : Nat) (y : Nat) : List Nat := (List.range n).map fun x => (f (y % h)).getD (x % w) 0
theorem tor_fill {set : List Tile} {w h : Nat} {f : Nat → List Nat} (hf : TorF set w h f) (hw : 1 ≤ w) (hh : 1 ≤ h) (n m : Nat) : Fill set n m (repF w h f n) := by
  have hg : ∀ y x, x < n → (repF w h f n y).getD x 0 = (f (y % h)).getD (x % w) 0 := fun y x hx => by simp [repF, List.getElem?_map, List.getElem?_range hx]
  have hmod : ∀ a b, 1 ≤ b → a % b < b := fun a b hb => Nat.mod_lt _ (by omega)
  have hsucc : ∀ a b, 1 ≤ b → (a + 1) % b = if a % b + 1 = b then 0 else a % b + 1 := fun a b hb => by
    have h1 := hmod a b hb
    rw [Nat.add_mod]
    by_cases hb1 : b = 1
    · subst hb1; simp [Nat.mod_one]
    · rw [Nat.mod_eq_of_lt (show 1 < b by omega)]
      split
      · rename_i e; rw [e, Nat.mod_self]
      · rename_i e; rw [Nat.mod_eq_of_lt (by omega)]
  refine ⟨fun y hy => ⟨by simp [repF], fun x hx => ?_, fun x hx => ?_⟩, fun y hy => ?_⟩
  · rw [hg y x hx]; exact (hf.fill.row _ (hmod y h hh)).lt _ (hmod x w hw)
  · rw [hg y x (by omega), hg y (x + 1) hx, hsucc x w hw]
    split
    · rename_i e
      have := hf.ring _ (hmod y h hh)
      rw [show w - 1 = x % w by omega] at this
      exact this
    · rename_i e
      exact (hf.fill.row _ (hmod y h hh)).adj _ (by have := hmod x w hw; omega)
  · have hup : sideN set (f (y % h)) = sideS set (f ((y + 1) % h)) := by
      rw [hsucc y h hh]
      split
      · rename_i e; have := hf.top; rwa [show h - 1 = y % h by omega] at this
      · rename_i e; exact hf.fill.up _ (by have := hmod y h hh; omega)
    apply List.ext_getElem
    · simp [sideN, sideS, repF]
    · intro x h1 h2
      simp only [sideN, sideS, repF, List.getElem_map, List.getElem_range]
      have hx := hmod x w hw
      have l1 := (hf.fill.row (y % h) (hmod y h hh)).len
      have l2 := (hf.fill.row ((y + 1) % h) (hmod (y + 1) h hh)).len
      have h3 := congrArg (fun l => l.getD (x % w) 0) hup
      simp only [sideN, sideS, List.getD_eq_getElem?_getD, List.getElem?_map, List.getElem?_eq_getElem (show x % w < (f (y % h)).length by omega), List.getElem?_eq_getElem (show x % w < (f ((y + 1) % h)).length by omega), Option.map_some, Option.getD_some] at h3 ⊢
      exact h3
end Gp
set_option linter.unusedVariables false
set_option linter.unusedSimpArgs false
namespace Gp
open Gw Gq
def repB (set : List Tile) (p : Pattern) : Bool := inB set p && ((List.range (p.Height.toNat * p.Width.toNat)).all fun i => rightB set p p.Width.toNat p.Height.toNat true i && upB set p p.Width.toNat p.Height.toNat true i)
theorem ofB_inB {set : List Tile} (hv : validT set = true) (p : Pattern) : ofB set p = inB set p := by
  unfold ofB inB; rw [hv, Bool.true_and]
theorem rep_form' {set : List Tile} {p : Pattern} {W H : Nat} (f : PForm set p W H) : p.Width.toNat = W ∧ p.Height.toNat = H := by
  have := f.w; have := f.h; omega
theorem rep_tile {set : List Tile} (hv : validT set = true) (p : Pattern) {k : Nat} (hk : 40001 ≤ k) : tile_Repeats k set p = some (repB set p) := by
  have h8 := valid_len hv
  unfold repB
  cases hi : inB set p
  · unfold tile_Repeats
    rw [of_eq set p hk (by omega), ofB_inB hv, hi]; rfl
  · obtain ⟨W, H, f⟩ := inB_iff hi
    obtain ⟨e1, e2⟩ := rep_form' f
    rw [repeats_eq f hv (by omega) hk, e1, e2]; rfl
theorem torF_of_rep {set : List Tile} {p : Pattern} (h : repB set p = true) : ∃ W H f, PForm set p W H ∧ TorF set W H f := by
  unfold repB at h
  rw [Bool.and_eq_true] at h
  obtain ⟨W, H, f⟩ := inB_iff h.1
  obtain ⟨e1, e2⟩ := rep_form' f
  rw [e1, e2] at h
  exact ⟨W, H, _, f, tor_of_pattern f h.2⟩
theorem fillB_of_tor {set : List Tile} {w h : Nat} {f : Nat → List Nat} (hf : TorF set w h f) (hw : 1 ≤ w) (hh : 1 ≤ h) {n : Nat} (h1 : 1 ≤ n) (h8 : n ≤ 8) : fillB set n = true := (fillB_iff set h1 h8).2 ⟨_, tor_fill hf hw hh n n⟩
end Gp
set_option linter.unusedVariables false
set_option linter.unusedSimpArgs false
namespace Gp
open Gw Gq
/-! ### three tiles: a torus, or no square of side four -/
/-! masks of a set -/
def hR (set : List Tile) (i j : Nat) : Bool := decide (i < set.length ∧ j < set.length ∧ (tat set i).E = (tat set j).W)
end Gp
set_option linter.unusedVariables false
set_option linter.unusedSimpArgs false
namespace Gp
open Gw Gq
/-! ### the least torus -/
def tryW (set : List Tile) (m a w : Nat) : Option Pattern := if a % w = 0 ∧ a / w ≤ m then (findS (ringL set w) (a / w)).map fun l => ⟨w, (a / w : Nat), cellsR l⟩ else none
def firstW (set : List Tile) (m a : Nat) : Nat → Nat → Option Pattern
  | 0, _ => none
  | d + 1, w => match tryW set m a w with
    | some p => some p
    | none => firstW set m a d (w + 1)
def firstA (set : List Tile) (m : Nat) : Nat → Nat → Option Pattern
  | 0, _ => none
  | d + 1, a => match firstW set m a m 1 with
    | some p => some p
    | none => firstA set m d (a + 1)
def leastS (set : List Tile) (m : Nat) : Option Pattern := firstA set m (m * m) 1
theorem few_pow {n m w : Nat} (hf : fewB n m = true) (hw : w ≤ m) : n ^ w ≤ 100000 := by
  unfold fewB at hf
  rw [decide_eq_true_eq] at hf
  have h1 : n ^ w ≤ (max n 1) ^ w := Nat.pow_le_pow_left (by omega) w
  have h2 : (max n 1) ^ w ≤ (max n 1) ^ m := Nat.pow_le_pow_right (by omega) hw
  omega
theorem least_l1 (set : List Tile) (m a : Nat) (hm : m ≤ 6) (ha : 1 ≤ a ∧ a ≤ 36) (hl : set.length ≤ 1000) (hf : fewB set.length m = true) : ∀ (d w k : Nat), w + d = m + 1 → 1 ≤ w → 300001 + d < k → torus_Least.l1 k w set m a = some (match firstW set m a d w with
    | some p => .inl (p, 0)
    | none => .inr ())
  | 0, w, k, e, h1, hk => by
    obtain ⟨k, rfl⟩ : ∃ m, k = m + 1 := ⟨k - 1, by omega⟩
    rw [torus_Least.l1, if_neg (by simp; omega)]; rfl
  | d + 1, w, k, e, h1, hk => by
    obtain ⟨k, rfl⟩ : ∃ m, k = m + 1 := ⟨k - 1, by omega⟩
    have ih := least_l1 set m a hm ha hl hf d (w + 1) k (by omega) (by omega) (by omega)
    have e1 : Int.tmod (a : Int) (w : Int) = ((a % w : Nat) : Int) := rfl
    have e2 : Int.tdiv (a : Int) (w : Int) = ((a / w : Nat) : Int) := rfl
    have hq : a / w ≤ a := Nat.div_le_self _ _
    have hq0 : (0 : Int) ≤ ((a / w : Nat) : Int) := Int.natCast_nonneg _
    have hq3 : ((a / w : Nat) : Int) ≤ 36 := Int.ofNat_le.2 (Nat.le_trans hq ha.2)
    have hwi : w64 ((w : Int) + 1) = ((w + 1 : Nat) : Int) := by rw [w64_id (by omega) (by omega)]; rfl
    rw [torus_Least.l1, if_pos (by simp; omega), if_pos (by omega), e1, e2, w64_id (n := ((a / w : Nat) : Int)) (by omega) (by omega), hwi, firstW]
    unfold tryW
    by_cases hc : a % w = 0 ∧ a / w ≤ m
    · have hq1 : 1 ≤ a / w := by
        rcases Nat.eq_zero_or_pos (a / w) with h0 | h0
        · have := Nat.div_add_mod a w
          rw [h0, hc.1, Nat.mul_zero] at this; omega
        · exact h0
      rw [if_neg (by simp; omega), if_pos hc, find_eq set w (a / w) ⟨h1, by omega⟩ ⟨hq1, by omega⟩ hl (few_pow hf (by omega)) (by omega), Option.bind_some]
      cases findS (ringL set w) (a / w) with
      | none => simp only [Option.map_none]; rw [if_neg (by simp), Option.bind_some]; exact ih
      | some l => simp only [Option.map_some]; rw [if_pos trivial, Option.bind_some]; rfl
    · rw [if_pos (by simp; omega), if_neg hc, Option.bind_some]; exact ih
theorem least_l0 (set : List Tile) (m : Nat) (hm : m ≤ 6) (hl : set.length ≤ 1000) (hf : fewB set.length m = true) : ∀ (d a k : Nat), a + d = m * m + 1 → 1 ≤ a → 300010 + d < k → torus_Least.l0 k a set m = some (match firstA set m d a with
    | some p => .inl (p, 0)
    | none => .inr ())
  | 0, a, k, e, h1, hk => by
    obtain ⟨k, rfl⟩ : ∃ m, k = m + 1 := ⟨k - 1, by omega⟩
    have : m * m ≤ 36 := Nat.mul_le_mul hm hm
    rw [torus_Least.l0, show (m : Int) * (m : Int) = ((m * m : Nat) : Int) by simp, w64_id (by omega) (by omega), if_neg (by simp; omega)]; rfl
  | d + 1, a, k, e, h1, hk => by
    obtain ⟨k, rfl⟩ : ∃ m, k = m + 1 := ⟨k - 1, by omega⟩
    have h36 : m * m ≤ 36 := Nat.mul_le_mul hm hm
    have ih := least_l0 set m hm hl hf d (a + 1) k (by omega) (by omega) (by omega)
    have hwi : w64 ((a : Int) + 1) = ((a + 1 : Nat) : Int) := by rw [w64_id (by omega) (by omega)]; rfl
    have l1 := least_l1 set m a hm ⟨h1, by omega⟩ hl hf m 1 k (by omega) (by omega) (by omega)
    have l1' : torus_Least.l1 k 1 set m a = _ := l1
    rw [torus_Least.l0, show (m : Int) * (m : Int) = ((m * m : Nat) : Int) by simp, w64_id (n := ((m * m : Nat) : Int)) (by omega) (by omega), if_pos (by simp; omega), l1', hwi, firstA, Option.bind_some]
    cases firstW set m a m 1 with
    | none => exact ih
    | some p => rfl
theorem least_eq (set : List Tile) (m : Nat) (hv : validT set = true) (hm : 1 ≤ m ∧ m ≤ 6) (hf : fewB set.length m = true) {k : Nat} (hk : 300100 < k) : torus_Least k set m = some (match leastS set m with
    | some p => (p, 0)
    | none => (p0P, 6)) := by
  have hl := valid_len hv
  have h36 : m * m ≤ 36 := Nat.mul_le_mul hm.2 hm.2
  unfold torus_Least
  have l0 := least_l0 set m hm.2 hl hf (m * m) 1 k (by omega) (by omega) (by omega)
  have l0' : torus_Least.l0 k 1 set m = _ := l0
  rw [tile_valid set (by omega) (by omega), hv, Option.bind_some, if_neg (by simp), if_neg (by simp; omega), few_eq set m (by omega) (by omega) (by omega), hf, Option.bind_some, if_neg (by simp), l0', Option.bind_some]
  unfold leastS
  cases firstA set m (m * m) 1 <;> rfl
theorem firstW_some {set : List Tile} {m a : Nat} : ∀ {d w : Nat} {p : Pattern}, firstW set m a d w = some p → ∃ v, w ≤ v ∧ v < w + d ∧ tryW set m a v = some p
  | 0, w, p, h => by cases h
  | d + 1, w, p, h => by
    rw [firstW] at h
    cases ht : tryW set m a w with
    | some q => rw [ht] at h; injection h with h; subst h; exact ⟨w, by omega, by omega, ht⟩
    | none =>
      rw [ht] at h
      obtain ⟨v, h1, h2, h3⟩ := firstW_some h
      exact ⟨v, by omega, by omega, h3⟩
theorem firstW_none {set : List Tile} {m a : Nat} : ∀ {d w : Nat}, firstW set m a d w = none → ∀ v, w ≤ v → v < w + d → tryW set m a v = none
  | 0, w, h, v, h1, h2 => by omega
  | d + 1, w, h, v, h1, h2 => by
    rw [firstW] at h
    cases ht : tryW set m a w with
    | some q => rw [ht] at h; cases h
    | none =>
      rw [ht] at h
      by_cases hv : v = w
      · rw [hv]; exact ht
      · exact firstW_none h v (by omega) (by omega)
theorem firstA_some {set : List Tile} {m : Nat} : ∀ {d a : Nat} {p : Pattern}, firstA set m d a = some p → ∃ b, a ≤ b ∧ b < a + d ∧ firstW set m b m 1 = some p ∧ ∀ c, a ≤ c → c < b → firstW set m c m 1 = none
  | 0, a, p, h => by cases h
  | d + 1, a, p, h => by
    rw [firstA] at h
    cases ht : firstW set m a m 1 with
    | some q => rw [ht] at h; injection h with h; subst h; exact ⟨a, by omega, by omega, ht, fun c _ _ => by omega⟩
    | none =>
      rw [ht] at h
      obtain ⟨v, h1, h2, h3, h4⟩ := firstA_some h
      refine ⟨v, by omega, by omega, h3, fun c hc hcv => ?_⟩
      by_cases he : c = a
      · rw [he]; exact ht
      · exact h4 c (by omega) hcv
theorem tryW_some {set : List Tile} {m a w : Nat} {p : Pattern} (hw : 1 ≤ w ∧ w ≤ 8) (ha : 1 ≤ a) (h : tryW set m a w = some p) : a % w = 0 ∧ 1 ≤ a / w ∧ a / w ≤ m ∧ ∃ f, TorF set w (a / w) f ∧ p = patR w (a / w) f := by
  unfold tryW at h
  split at h
  · rename_i hc
    rw [Option.map_eq_some_iff] at h
    obtain ⟨l, hl, rfl⟩ := h
    have hq1 : 1 ≤ a / w := by
      rcases Nat.eq_zero_or_pos (a / w) with h0 | h0
      · have := Nat.div_add_mod a w
        rw [h0, hc.1, Nat.mul_zero] at this; omega
      · exact h0
    obtain ⟨f, hf, hp⟩ := find_some hw hq1 hl
    exact ⟨hc.1, hq1, hc.2, f, hf, hp⟩
  · cases h
theorem tryW_none {set : List Tile} {m w h : Nat} (hw : 1 ≤ w ∧ w ≤ 8) (hh : 1 ≤ h ∧ h ≤ m) (hn : tryW set m (h * w) w = none) (f : Nat → List Nat) : ¬ TorF set w h f := by
  unfold tryW at hn
  have e1 : h * w / w = h := Nat.mul_div_cancel _ (by omega)
  rw [Nat.mul_mod_left, e1, if_pos ⟨rfl, hh.2⟩, Option.map_eq_none_iff] at hn
  exact find_none hw hh.1 hn f
theorem least_some {set : List Tile} {m : Nat} (hm : m ≤ 6) {p : Pattern} (h : leastS set m = some p) : ∃ w h f, (1 ≤ w ∧ w ≤ m) ∧ (1 ≤ h ∧ h ≤ m) ∧ TorF set w h f ∧ p = patR w h f ∧ ∀ w' h', 1 ≤ w' → w' ≤ m → 1 ≤ h' → h' ≤ m → h' * w' < h * w → ∀ f', ¬ TorF set w' h' f' := by
  obtain ⟨b, b1, b2, b3, b4⟩ := firstA_some h
  obtain ⟨w, w1, w2, w3⟩ := firstW_some b3
  obtain ⟨h1, h2, h3, f, h4, h5⟩ := tryW_some ⟨w1, by omega⟩ b1 w3
  refine ⟨w, b / w, f, ⟨w1, by omega⟩, ⟨h2, h3⟩, h4, h5, fun w' h' a1 a2 a3 a4 hlt f' => ?_⟩
  have hb : b / w * w = b := by
    have := Nat.div_add_mod b w
    rw [h1, Nat.mul_comm] at this; omega
  rw [hb] at hlt
  exact tryW_none ⟨a1, by omega⟩ ⟨a3, a4⟩ (firstW_none (b4 (h' * w') (Nat.mul_pos a3 a1) hlt) w' (by omega) (by omega)) f'
/-! ### the decision -/
end Gp
set_option linter.unusedVariables false
set_option linter.unusedSimpArgs false
namespace Gp
open Gw Gq
/-! ### fillings as grids; turned and renamed sets -/
end Gp
set_option linter.unusedVariables false
set_option linter.unusedSimpArgs false
namespace Gp
open Gw Gq
/-! ### a set with one tile more -/
end Gp
set_option linter.unusedVariables false
set_option linter.unusedSimpArgs false
namespace Gp
open Gw Gq
/-! ### torus.Find -/
theorem power_l0 (b n : Nat) (hb : b ≤ 1000000) (hn : n ≤ 1000) : ∀ (d i k : Nat), i + d = n → d < k → ref02_Power.l0 k (min (b ^ i) 1000000 : Nat) i b n = some ((min (b ^ n) 1000000 : Nat) : Int)
  | 0, i, k, e, hk => by
    obtain ⟨k, rfl⟩ : ∃ m, k = m + 1 := ⟨k - 1, by omega⟩
    have : i = n := by omega
    subst this
    rw [ref02_Power.l0, if_neg (by simp)]
  | d + 1, i, k, e, hk => by
    obtain ⟨k, rfl⟩ : ∃ m, k = m + 1 := ⟨k - 1, by omega⟩
    have ih := power_l0 b n hb hn d (i + 1) k (by omega) (by omega)
    have hwi : w64 ((i : Int) + 1) = ((i + 1 : Nat) : Int) := by rw [w64_id (by omega) (by omega)]; rfl
    have hm : (min (b ^ i) 1000000) * b ≤ 1000000 * 1000000 := Nat.mul_le_mul (Nat.min_le_right _ _) hb
    have hmul : ((min (b ^ i) 1000000 : Nat) : Int) * (b : Int) = (((min (b ^ i) 1000000) * b : Nat) : Int) := (Int.natCast_mul _ _).symm
    have key : min (min (b ^ i) 1000000 * b) 1000000 = min (b ^ (i + 1)) 1000000 := by
      rw [Nat.pow_succ]
      by_cases hx : b ^ i ≤ 1000000
      · rw [Nat.min_eq_left hx]
      · rw [Nat.min_eq_right (by omega : 1000000 ≤ b ^ i)]
        have h0 : 0 < b := by
          rcases Nat.eq_zero_or_pos b with h0 | h0
          · exfalso; subst h0
            have := Nat.pow_le_pow_left (by omega : 0 ≤ 1) i
            rw [Nat.one_pow] at this; omega
          · exact h0
        have a1 : 1000000 ≤ 1000000 * b := Nat.le_mul_of_pos_right _ h0
        have a2 : b ^ i ≤ b ^ i * b := Nat.le_mul_of_pos_right _ h0
        rw [Nat.min_eq_right a1, Nat.min_eq_right (by omega)]
    obtain ⟨M, hM⟩ : ∃ M, min (b ^ i) 1000000 * b = M := ⟨_, rfl⟩
    rw [hM] at hm hmul key
    have hmin : minI (M : Int) 1000000 = ((min (b ^ (i + 1)) 1000000 : Nat) : Int) := by
      rw [← key]; unfold minI; split <;> omega
    rw [ref02_Power.l0, if_pos (by simp; omega), hmul, w64_id (n := (M : Int)) (by omega) (by omega), hmin, hwi]
    exact ih
theorem power_eq (b n : Nat) (hb : b ≤ 1000000) (hn : n ≤ 1000) {k : Nat} (hk : n < k) : ref02_Power k b n = some ((min (b ^ n) 1000000 : Nat) : Int) := by
  have := power_l0 b n hb hn n 0 k (by omega) hk
  rw [Nat.pow_zero] at this
  have this : ref02_Power.l0 k 1 0 b n = _ := this
  unfold ref02_Power
  rw [this]; rfl
theorem great_eq (s : List Tile) (hl : s.length ≤ 1000) {w : Nat} (hw : 1 ≤ w ∧ w ≤ 60) {k : Nat} (hk : 1000 < k) : ref02_Great k s w = some (!fewB s.length w) := by
  unfold ref02_Great
  rw [power_eq s.length w (by omega) (by omega) (by omega), Option.bind_some]
  congr 1
  unfold fewB
  by_cases h : (max s.length 1) ^ w ≤ 5000
  · rw [decide_eq_true h]
    have : s.length ^ w ≤ (max s.length 1) ^ w := Nat.pow_le_pow_left (by omega) w
    exact decide_eq_false (by omega)
  · rw [decide_eq_false h]
    have : s.length ^ w = (max s.length 1) ^ w := by
      rcases Nat.eq_zero_or_pos s.length with h0 | h0
      · exfalso; rw [h0] at h; exact h (by simp)
      · rw [show max s.length 1 = s.length by omega]
    exact decide_eq_true (by omega)
/-! multiples -/
def leastR (s : List Tile) (m : Nat) : Pattern × Int := match leastS s m with
  | some p => (p, 0)
  | none => (p0P, 6)
theorem leastR_eq (s : List Tile) (m : Nat) (hv : validT s = true) (hm : 1 ≤ m ∧ m ≤ 6) (hf : fewB s.length m = true) {k : Nat} (hk : 300100 < k) : torus_Least k s m = some (leastR s m) := by
  rw [least_eq s m hv hm hf hk]; unfold leastR
  cases leastS s m <;> rfl
theorem leastR_none {s : List Tile} {m : Nat} (h : leastS s m = none) : leastR s m = (p0P, 6) := by unfold leastR; rw [h]
end Gp
set_option linter.unusedVariables false
set_option linter.unusedSimpArgs false
namespace Gp
open Gw Gq
/-! ### a torus is no higher than there are words -/
end Gp
set_option linter.unusedVariables false
set_option linter.unusedSimpArgs false
namespace Gp
open Gw Gq
/-! ### the reference's colours -/
def atS (l : List Int) (n : Int) : Int := if n ∈ l then (l.idxOf n : Int) else -1
theorem at_l0 (l : List Int) (n : Int) (hl : l.length ≤ 1000000) : ∀ (d i k : Nat), i + d = l.length → d < k → ref02_at.l0 k i l n = some (if n ∈ l.drop i then .inl (((i + (l.drop i).idxOf n : Nat)) : Int) else .inr ())
  | 0, i, k, e, hk => by
    obtain ⟨k, rfl⟩ : ∃ m, k = m + 1 := ⟨k - 1, by omega⟩
    rw [ref02_at.l0, if_neg (by simp; omega), List.drop_eq_nil_of_le (by omega)]; rfl
  | d + 1, i, k, e, hk => by
    obtain ⟨k, rfl⟩ : ∃ m, k = m + 1 := ⟨k - 1, by omega⟩
    have hlt : i < l.length := by omega
    have hwi : w64 ((i : Int) + 1) = ((i + 1 : Nat) : Int) := by rw [w64_id (by omega) (by omega)]; rfl
    rw [ref02_at.l0, if_pos (by simpa using hlt), if_pos (by omega), rdD_get hlt, hwi, at_l0 l n hl d (i + 1) k (by omega) (by omega), List.drop_eq_getElem_cons hlt]
    by_cases he : l[i] = n
    · rw [if_pos (by simpa using he), if_pos (by rw [he]; exact List.mem_cons_self ..)]
      rw [he, List.idxOf_cons_self]; rfl
    · rw [if_neg (by simpa using he)]
      have hm : n ∈ l[i] :: l.drop (i + 1) ↔ n ∈ l.drop (i + 1) := by
        rw [List.mem_cons]
        exact ⟨fun h => h.resolve_left (fun e => he e.symm), .inr⟩
      by_cases hd : n ∈ l.drop (i + 1)
      · rw [if_pos hd, if_pos (hm.2 hd), List.idxOf_cons, show (l[i] == n) = false by simpa using he]
        simp only [cond_false]
        congr 2; omega
      · rw [if_neg hd, if_neg (fun h => hd (hm.1 h))]
theorem at_eq (l : List Int) (n : Int) (hl : l.length ≤ 1000000) {k : Nat} (hk : l.length < k) : ref02_at k l n = some (atS l n) := by
  have := at_l0 l n hl l.length 0 k (by omega) hk
  have this : ref02_at.l0 k 0 l n = _ := this
  unfold ref02_at atS
  rw [this, List.drop_zero]
  by_cases h : n ∈ l
  · rw [if_pos h, if_pos h]; simp [sumb]
  · rw [if_neg h, if_neg h]; rfl
def withS (l : List Int) (n : Int) : List Int := if n ∈ l then l else l ++ [n]
theorem with_eq (l : List Int) (n : Int) (hl : l.length ≤ 1000000) {k : Nat} (hk : l.length < k) : ref02_with k l n = some (withS l n) := by
  unfold ref02_with withS
  rw [at_eq l n hl hk, Option.bind_some]
  unfold atS
  by_cases h : n ∈ l
  · rw [if_pos h, if_neg (by simp), if_pos h]; rfl
  · rw [if_neg h, if_pos (by decide), if_pos (by simp; omega), if_neg h]; rfl
theorem withS_len (l : List Int) (n : Int) : (withS l n).length ≤ l.length + 1 := by unfold withS; split <;> simp
theorem mem_withS (l : List Int) (n x : Int) : x ∈ withS l n ↔ x ∈ l ∨ x = n := by
  unfold withS
  split
  · rename_i h; exact ⟨.inl, fun e => e.elim id (fun e => e ▸ h)⟩
  · simp
theorem withS_nodup {l : List Int} (n : Int) (h : l.Nodup) : (withS l n).Nodup := by
  unfold withS
  split
  · exact h
  · rename_i hn
    rw [List.nodup_append]
    exact ⟨h, List.nodup_cons.2 ⟨by simp, List.nodup_nil⟩, fun a ha b hb => by
      rw [List.mem_singleton] at hb; intro e; exact hn (by rw [← hb, ← e]; exact ha)⟩
def colS2 (l : List Int) (t : Tile) : List Int := withS (withS l t.N) t.S
def colsS (s : List Tile) : List Int := s.foldl colS2 []
theorem colours_eq (s : List Tile) (hl : s.length ≤ 2000) {k : Nat} (hk : 10000 < k) : ref02_Colours k s = some (colsS s) := by
  have := loop_list (F := fun k i (l : List Int) => ref02_Colours.l0 k l i s) s colS2 5000 (fun i l => l.length ≤ 2 * i) id (fun k i l h hk hP => by
    have hwi : w64 ((i : Int) + 1) = ((i + 1 : Nat) : Int) := by rw [w64_id (by omega) (by omega)]; rfl
    have h1 := withS_len l s[i].N
    have h2 := withS_len (withS l s[i].N) s[i].S
    constructor
    · show ref02_Colours.l0 (k + 1) l i s = _
      rw [ref02_Colours.l0, if_pos (by simpa using h), if_pos (by omega), rdD_get h, with_eq l _ (by omega) (by omega), Option.bind_some, with_eq _ _ (by omega) (by omega), Option.bind_some, hwi]; rfl
    · unfold colS2; omega) (fun k l _ => by
    show ref02_Colours.l0 (k + 1) l s.length s = _
    rw [ref02_Colours.l0, if_neg (by simp)]; rfl) [] (by simp) k (by omega)
  have this : ref02_Colours.l0 k [] 0 s = _ := this
  unfold ref02_Colours
  rw [this]; rfl
theorem colsS_spec (s : List Tile) : (colsS s).Nodup ∧ (colsS s).length ≤ 2 * s.length ∧ ∀ c, c ∈ colsS s ↔ ∃ t ∈ s, c = t.N ∨ c = t.S := by
  have key : ∀ (r : List Tile) (l : List Int), l.Nodup → (r.foldl colS2 l).Nodup ∧ (r.foldl colS2 l).length ≤ l.length + 2 * r.length ∧ ∀ c, c ∈ r.foldl colS2 l ↔ c ∈ l ∨ ∃ t ∈ r, c = t.N ∨ c = t.S := by
    intro r
    induction r with
    | nil => intro l h; exact ⟨h, by simp, fun c => by simp⟩
    | cons t r ih =>
      intro l h
      obtain ⟨a, b, c⟩ := ih (colS2 l t) (withS_nodup _ (withS_nodup _ h))
      have h1 := withS_len l t.N
      have h2 := withS_len (withS l t.N) t.S
      refine ⟨a, ?_, fun x => ?_⟩
      · rw [List.foldl_cons, List.length_cons]; unfold colS2 at b ⊢; omega
      · rw [List.foldl_cons, c x]
        unfold colS2
        rw [mem_withS, mem_withS]
        simp only [List.mem_cons, exists_eq_or_imp]
        constructor
        · rintro (((h | h) | h) | h)
          · exact .inl h
          · exact .inr (.inl (.inl h))
          · exact .inr (.inl (.inr h))
          · exact .inr (.inr h)
        · rintro (h | (h | h) | h)
          · exact .inl (.inl (.inl h))
          · exact .inl (.inl (.inr h))
          · exact .inl (.inr h)
          · exact .inr h
  obtain ⟨a, b, c⟩ := key s [] List.nodup_nil
  exact ⟨a, by simpa [colsS] using b, fun x => by rw [colsS, c x]; simp⟩
theorem light_some (s : List Tile) (hl : s.length ≤ 1000) {w : Nat} (hw : w ≤ 1000) {k : Nat} (hk : 10000 < k) : ref02_Light k s w = some (decide (min ((colsS s).length ^ w) 1000000 ≤ 1500) && decide (min (s.length ^ w) 1000000 ≤ 40000)) := by
  obtain ⟨_, hc, _⟩ := colsS_spec s
  unfold ref02_Light
  rw [colours_eq s (by omega) hk, Option.bind_some, power_eq (colsS s).length w (by omega) hw (by omega), Option.bind_some]
  have d1 : ∀ a b : Nat, decide (((a : Nat) : Int) ≤ ((b : Nat) : Int)) = decide (a ≤ b) := fun a b => by
    by_cases h : a ≤ b
    · rw [decide_eq_true h, decide_eq_true (by omega)]
    · rw [decide_eq_false h, decide_eq_false (by omega)]
  have e1 := d1 (min ((colsS s).length ^ w) 1000000) 1500
  have e2 := d1 (min (s.length ^ w) 1000000) 40000
  have e1' : decide (((min ((colsS s).length ^ w) 1000000 : Nat) : Int) ≤ 1500) = decide (min ((colsS s).length ^ w) 1000000 ≤ 1500) := e1
  have e2' : decide (((min (s.length ^ w) 1000000 : Nat) : Int) ≤ 40000) = decide (min (s.length ^ w) 1000000 ≤ 40000) := e2
  rw [e1']
  cases h : decide (min ((colsS s).length ^ w) 1000000 ≤ 1500)
  · rfl
  · rw [if_pos rfl, power_eq s.length w (by omega) hw (by omega), Option.bind_some, e2']; rfl
theorem heavy_some (s : List Tile) (hl : s.length ≤ 1000) {w : Nat} (hw : w ≤ 1000) {k : Nat} (hk : 10000 < k) : ∃ b, law05_heavy k s w = some b ∧ (b = false → s.length ≤ 60 ∧ (colsS s).length ^ w ≤ 1500 ∧ s.length ^ w ≤ 40000) := by
  unfold law05_heavy
  by_cases h : s.length ≤ 60
  · rw [if_neg (by simp; omega), light_some s hl hw hk]
    refine ⟨_, rfl, fun hb => ?_⟩
    rw [Bool.not_eq_false', Bool.and_eq_true, decide_eq_true_eq, decide_eq_true_eq] at hb
    omega
  · rw [if_pos (by simp; omega)]
    exact ⟨true, rfl, fun h => by cases h⟩
/-! ### squares fall -/
theorem awake05_ok (k : Nat) : law05_awake (k + 300) = some true := by kernel_rfl
theorem step8 (p : Int) (hp : (Go.Lit.int .u8 p).wf = true) : ∃ n : Nat, w64 (1 + Int.tmod (w64 p) 8) = (n : Int) ∧ 1 ≤ n ∧ n ≤ 8 := by
  simp [Go.Lit.wf, Go.IntKind.min, Go.IntKind.max, Go.IntKind.signed, Go.IntKind.bits] at hp
  obtain ⟨q, rfl⟩ : ∃ q : Nat, p = q := ⟨p.toNat, by omega⟩
  rw [w64_id (n := (q : Int)) (by omega) (by omega), show Int.tmod (q : Int) 8 = ((q % 8 : Nat) : Int) from rfl, w64_id (by omega) (by omega)]
  exact ⟨1 + q % 8, by simp, by omega, by omega⟩
end Gp
set_option linter.unusedVariables false
set_option linter.unusedSimpArgs false
namespace Gp
open Gw Gq
/-! ### the reference's rows -/
end Gp
set_option linter.unusedVariables false
set_option linter.unusedSimpArgs false
namespace Gp
open Gw Gq
/-! ### the reference's tori -/
end Gp
set_option linter.unusedVariables false
set_option linter.unusedSimpArgs false
namespace Gp
open Gw Gq
/-! program and reference -/
end Gp
set_option linter.unusedVariables false
set_option linter.unusedSimpArgs false
namespace Gp
open Gw Gq
/-! ### the reference's least torus -/
end Gp
set_option linter.unusedVariables false
set_option linter.unusedSimpArgs false
namespace Gp
open Gw Gq
/-! ### the reference's first filling -/
end Gp
set_option linter.unusedVariables false
set_option linter.unusedSimpArgs false
namespace Gp
open Gw Gq
end Gp
set_option linter.unusedVariables false
set_option linter.unusedSimpArgs false
namespace Gp
open Gw Gq
end Gp
set_option linter.unusedVariables false
set_option linter.unusedSimpArgs false
namespace Gp
open Gw Gq
end Gp
set_option linter.unusedVariables false
set_option linter.unusedSimpArgs false
namespace Gp
open Gw Gq
/-! ### the first filling of a rectangle -/
end Gp
set_option linter.unusedVariables false
set_option linter.unusedSimpArgs false
namespace Gq
open Gw
/-! ### sums, and the numbers of ways up and down -/
/-! ### numbers that stay below a bound -/
end Gq
set_option linter.unusedVariables false
set_option linter.unusedSimpArgs false
namespace Gp
open Gw Gq
/-! ### the program's count -/
/-! ### the reference's count -/
end Gp
set_option linter.unusedVariables false
set_option linter.unusedSimpArgs false
namespace Gp
open Gw Gq
/-! ### there is a filling exactly if there are ways -/
end Gp
set_option linter.unusedVariables false
set_option linter.unusedSimpArgs false
namespace Gq
open Gw
/-! ### all lists of some colours -/
end Gq
namespace Gp
open Gw Gq
end Gp
set_option linter.unusedVariables false
set_option linter.unusedSimpArgs false
namespace Gp
open Gw Gq
end Gp
set_option linter.unusedVariables false
set_option linter.unusedSimpArgs false
namespace Gq
open Gw
end Gq
namespace Gp
open Gw Gq
structure OKG (s : List Tile) (w h : Nat) (e : Edges) (g : Nat → Nat → Nat) : Prop where
  lt : ∀ y x, y < h → x < w → g y x < s.length
  right : ∀ y x, y < h → x + 1 < w → (tat s (g y x)).E = (tat s (g y (x + 1))).W
  up : ∀ y x, y + 1 < h → x < w → (tat s (g y x)).N = (tat s (g (y + 1) x)).S
  west : ∀ y, y < h → atB e.West y (tat s (g y 0)).W = true
  east : ∀ y, y < h → atB e.East y (tat s (g y (w - 1))).E = true
  south : ∀ x, x < w → atB e.South x (tat s (g 0 x)).S = true
  north : ∀ x, x < w → atB e.North x (tat s (g (h - 1) x)).N = true
theorem OKG.congr {s : List Tile} {w h : Nat} {e : Edges} {g g' : Nat → Nat → Nat} (hw : 1 ≤ w) (hh : 1 ≤ h) (hg : ∀ y x, y < h → x < w → g' y x = g y x) (o : OKG s w h e g) : OKG s w h e g' := by
  refine ⟨fun y x hy hx => ?_, fun y x hy hx => ?_, fun y x hy hx => ?_, fun y hy => ?_, fun y hy => ?_, fun x hx => ?_, fun x hx => ?_⟩
  · rw [hg y x hy hx]; exact o.lt y x hy hx
  · rw [hg y x hy (by omega), hg y (x + 1) hy hx]; exact o.right y x hy hx
  · rw [hg y x (by omega) hx, hg (y + 1) x hy hx]; exact o.up y x hy hx
  · rw [hg y 0 hy (by omega)]; exact o.west y hy
  · rw [hg y (w - 1) hy (by omega)]; exact o.east y hy
  · rw [hg 0 x (by omega) hx]; exact o.south x hx
  · rw [hg (h - 1) x (by omega) hx]; exact o.north x hx
end Gp
set_option linter.unusedVariables false
set_option linter.unusedSimpArgs false
namespace Gp
open Gw Gq
theorem fits_sq {s : List Tile} (hv : validT s = true) (p : Pattern) {n : Nat} (h1 : 1 ≤ n) (h8 : n ≤ 8) {k : Nat} (hk : 40001 ≤ k) : ∃ b, tile_Fits k s p = some b ∧ (b = true → (n : Int) ≤ p.Width → (n : Int) ≤ p.Height → fillB s n = true) := by
  have hl := valid_len hv
  cases ho : ofB s p
  · exact ⟨false, (fits_no ho (by omega) hk).1, fun h => by cases h⟩
  · obtain ⟨_, W, H, f⟩ := ofB_iff ho
    refine ⟨_, fits_eq f hv (by omega) hk, fun hj hw hh => ?_⟩
    have hW := f.w
    have hH := f.h
    exact (fillB_iff s h1 h8).2 ⟨_, fill_of_pattern f hj (w := n) (h := n) (by omega) (by omega)⟩
theorem rep_sq {s : List Tile} {p : Pattern} (h : repB s p = true) {n : Nat} (h1 : 1 ≤ n) (h8 : n ≤ 8) : fillB s n = true := by
  obtain ⟨W, H, g, f, t⟩ := torF_of_rep h
  exact fillB_of_tor t f.dW.1 f.dH.1 h1 h8
theorem least_sq {s : List Tile} (hv : validT s = true) {n : Nat} (h1 : 1 ≤ n) (h8 : n ≤ 8) {k : Nat} (hk : 300100 < k) : ∃ q, torus_Least k s 3 = some q ∧ (q.2 = 0 → fillB s n = true) := by
  have hl := valid_len hv
  cases hf : fewB s.length 3
  · refine ⟨(p0P, 4), ?_, fun h => by cases h⟩
    unfold torus_Least
    rw [tile_valid s (by omega) (by omega), hv, Option.bind_some, if_neg (by simp), if_neg (by simp)]
    rw [show (3 : Int) = ((3 : Nat) : Int) from rfl, few_eq s 3 (by omega) (by omega) (by omega), hf]; rfl
  · refine ⟨_, leastR_eq s 3 hv ⟨by omega, by omega⟩ hf hk, fun h => ?_⟩
    cases hL : leastS s 3 with
    | none => rw [leastR_none hL] at h; cases h
    | some p =>
      obtain ⟨w', h', f', hw', hh', ht, _, _⟩ := least_some (by omega) hL
      exact fillB_of_tor ht hw'.1 hh'.1 h1 h8
theorem law05_SquareNone_pure : ∀ (p0 : List Tile) (p1 : Pattern) (p2 : Int), ((∀ x ∈ p0, ok_Tile x) ∧ p0.length ≤ Go.maxLen) → (ok_Pattern p1) → ((Go.Lit.int .u8 p2).wf = true) → ∃ k, law05_SquareNone k p0 p1 p2 = some true := by
  intro s p p2 hs _ hp2
  have hl : s.length ≤ 9223372036854775807 := hs.2
  refine ⟨1000000, ?_⟩
  have aw : law05_awake 1000000 = some true := awake05_ok 999700
  obtain ⟨n, en, n1, n8⟩ := step8 p2 hp2
  unfold law05_SquareNone
  rw [en]
  by_cases h60 : s.length ≤ 60
  rotate_left
  · have : decide ((s.length : Int) > 60) = true := decide_eq_true (by omega)
    simp only [this, if_true, Option.bind_some]
    rw [aw]; rfl
  have : decide ((s.length : Int) > 60) = false := decide_eq_false (by omega)
  rw [this, if_neg (by simp), valid01 s (by omega) hl, Option.bind_some]
  cases hv : validT s
  · simp only [Bool.not_false, Bool.true_or, if_true, Option.bind_some]
    rw [aw]; rfl
  simp only [Bool.not_true, Bool.false_or, Option.bind_some]
  by_cases hc : (p.Cells.length : Int) > 2000
  · rw [if_pos (decide_eq_true hc), Option.bind_some, if_pos rfl, Option.bind_some, if_pos rfl, aw]; rfl
  rw [if_neg (by simpa using hc), great_eq s (by omega) ⟨n1, by omega⟩ (by omega), Option.bind_some, Option.bind_some]
  cases hf : fewB s.length n
  · rw [if_pos (by decide), Option.bind_some, if_pos rfl, aw]; rfl
  obtain ⟨hb, hh, _⟩ := heavy_some s (by omega) (w := n) (by omega) (k := 1000000) (by omega)
  rw [if_neg (by decide), hh, Option.bind_some, Option.bind_some]
  cases hb
  rotate_left
  · rw [if_pos rfl, aw]; rfl
  obtain ⟨b, hF, hF2⟩ := fits_sq hv p n1 n8 (k := 1000000) (by omega)
  obtain ⟨q, hL, hL2⟩ := least_sq hv n1 n8 (k := 1000000) (by omega)
  rw [if_neg (by decide), exists_ok s n hv n1 n8 hf (by omega), Option.bind_some, if_neg (by simp), hF, Option.bind_some]
  have g1 : (((b && (decide (p.Width ≥ (n : Int)))) && (decide (p.Height ≥ (n : Int)))) && (!(fillB s n, (0 : Int)).1)) = false := by
    by_cases hh : b = true ∧ (n : Int) ≤ p.Width ∧ (n : Int) ≤ p.Height
    · have := hF2 hh.1 hh.2.1 hh.2.2
      simp [this]
    · cases b
      · rfl
      · by_cases h1 : (n : Int) ≤ p.Width
        · by_cases h2 : (n : Int) ≤ p.Height
          · exact absurd ⟨rfl, h1, h2⟩ hh
          · simp [h2]
        · simp [h1]
  have g2 : (repB s p && (!(fillB s n, (0 : Int)).1)) = false := by
    cases hr : repB s p
    · rfl
    · have := rep_sq hr n1 n8
      simp [this]
  have g3 : ((q.2 == 0) && (!(fillB s n, (0 : Int)).1)) = false := by
    cases hq : (q.2 == 0)
    · rfl
    · have := hL2 (eq_of_beq hq)
      simp [this]
  rw [g1, if_neg (by simp), rep_tile hv p (by omega), Option.bind_some, g2, if_neg (by simp), hL, Option.bind_some, g3, if_neg (by simp), aw]; rfl
end Gp
