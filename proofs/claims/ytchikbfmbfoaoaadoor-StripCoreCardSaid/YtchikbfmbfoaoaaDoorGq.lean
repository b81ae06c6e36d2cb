/- The plain law: what the functions compute answers as the statement says. -/
import Derived.Test.YtchikbfmbfoaoaaDoorGp
import Derived.KernelRfl
set_option linter.unusedVariables false
set_option linter.unusedSimpArgs false
namespace Gq
open Go Gw Gp
/-! ### numbers and lists -/
theorem w64_id {n : Int} (h0 : -9223372036854775808 ≤ n) (h1 : n ≤ 9223372036854775807) : w64 n = n := by
  show IntKind.i64.wrap n = n
  have e : IntKind.i64.wrap n = if (true && decide (n % 18446744073709551616 ≥ 9223372036854775808)) = true then n % 18446744073709551616 - 18446744073709551616 else n % 18446744073709551616 := rfl
  rw [e]
  simp only [Bool.true_and, decide_eq_true_eq]
  split <;> omega
theorem rdD_nat {α : Type} (xs : List α) (i : Nat) (d : α) : rdD xs (i : Int) d = xs.getD i d := by simp [rdD]
theorem rdD_get {α : Type} {xs : List α} {i : Nat} (h : i < xs.length) (d : α) : rdD xs (i : Int) d = xs[i] := by
  simp [rdD, List.getD, List.getElem?_eq_getElem h]
def firstS {α β : Type} (g : Nat → α → Option β) : Nat → List α → Option β
  | _, [] => none
  | i, a :: r => match g i a with
    | some b => some b
    | none => firstS g (i + 1) r
def fin {β : Type} : Option β → Sum β Unit
  | some b => .inl b
  | none => .inr ()
theorem scan {α β : Type} {F : Nat → Int → Option (Sum β Unit)} {xs : List α} {g : Nat → α → Option β}
    (hF : ∀ k (i : Nat), i ≤ xs.length → F (k + 1) (i : Int) = if h : i < xs.length then (match g i xs[i] with | some b => some (.inl b) | none => F k ((i + 1 : Nat) : Int)) else some (.inr ())) :
    ∀ (n k i : Nat), i + n = xs.length → n < k → F k (i : Int) = some (fin (firstS g i (xs.drop i)))
  | 0, k, i, hi, hk => by
    obtain ⟨k, rfl⟩ : ∃ m, k = m + 1 := ⟨k - 1, by omega⟩
    have hi : i = xs.length := by omega
    subst hi
    rw [hF k _ (Nat.le_refl _), dif_neg (Nat.lt_irrefl _), List.drop_length]; rfl
  | n + 1, k, i, hi, hk => by
    obtain ⟨k, rfl⟩ : ∃ m, k = m + 1 := ⟨k - 1, by omega⟩
    have hlt : i < xs.length := by omega
    rw [hF k i (by omega), dif_pos hlt, List.drop_eq_getElem_cons hlt, firstS]
    cases hg : g i xs[i] with
    | some b => rfl
    | none => exact scan hF n k (i + 1) (by omega) (by omega)
end Gq
set_option linter.unusedVariables false
set_option linter.unusedSimpArgs false
namespace Gq
theorem flat_succ {α : Type} (f : Nat → List α) (n : Nat) : (List.range (n + 1)).flatMap f = (List.range n).flatMap f ++ f n := by
  rw [List.range_succ, List.flatMap_append]; simp
end Gq
namespace Gp
open Gw Gq
/-! ### the tiles of a machine -/
def hd (Y q s : Nat) : Int := ((Y + q * Y + s : Nat) : Int)
end Gp
set_option linter.unusedVariables false
set_option linter.unusedSimpArgs false
namespace Gp
open Gw Gq
/-! the reference -/
/-! equal sets -/
end Gp
set_option linter.unusedVariables false
set_option linter.unusedSimpArgs false
namespace Gq
theorem flat_get {α : Type} {f : Nat → List α} : ∀ {n q j : Nat} {t : α}, q < n → (f q)[j]? = some t → ((List.range n).flatMap f)[((List.range q).flatMap f).length + j]? = some t
  | 0, q, j, t, h, _ => by omega
  | n + 1, q, j, t, h, hj => by
    rw [flat_succ, List.getElem?_append]
    by_cases hq : q < n
    · have := flat_get (n := n) hq hj
      rw [if_pos (by by_cases hl : ((List.range q).flatMap f).length + j < ((List.range n).flatMap f).length
                     · exact hl
                     · rw [List.getElem?_eq_none (by omega)] at this; cases this)]
      exact this
    · have : q = n := by omega
      subst this
      rw [if_neg (by omega), show ((List.range q).flatMap f).length + j - ((List.range q).flatMap f).length = j by omega]; exact hj
theorem flat_len {α : Type} {f : Nat → List α} {b : Nat} (hf : ∀ i, (f i).length = b) : ∀ n, ((List.range n).flatMap f).length = n * b
  | 0 => by simp
  | n + 1 => by
    rw [flat_succ, List.length_append, Nat.add_mul, Nat.one_mul, flat_len hf n, hf n]
end Gq
namespace Gp
open Gw Gq
/-! ### where the tiles of a machine lie -/
end Gp
set_option linter.unusedVariables false
set_option linter.unusedSimpArgs false
namespace Gp
open Gw Gq
/-! ### the tile that shows a cell of a step -/
theorem Tile.ext' {a b : Tile} (h1 : a.N = b.N) (h2 : a.E = b.E) (h3 : a.S = b.S) (h4 : a.W = b.W) : a = b := by
  cases a; cases b; simp only at h1 h2 h3 h4; subst h1 h2 h3 h4; rfl
end Gp
set_option linter.unusedVariables false
set_option linter.unusedSimpArgs false
namespace Gq
theorem loop_all {σ ρ τ : Type} {F : Nat → Int → σ → Option (Sum ρ τ)} {S : Nat → σ} {b : Nat → Bool} {n K : Nat} {r : ρ} {e : τ} (hs : ∀ k i, K ≤ k → i < n → F (k + 1) (i : Int) (S i) = if b i = true then F k ((i + 1 : Nat) : Int) (S (i + 1)) else some (.inl r)) (he : ∀ k, F (k + 1) (n : Int) (S n) = some (.inr e)) :
    ∀ k, n + K < k → F k 0 (S 0) = some (if (List.range n).all b = true then .inr e else .inl r) := by
  have key : ∀ d i k, i + d = n → d + K < k → F k (i : Int) (S i) = some (if (List.range' i d).all b = true then .inr e else .inl r) := by
    intro d
    induction d with
    | zero =>
      intro i k hi hk
      obtain ⟨k, rfl⟩ : ∃ m, k = m + 1 := ⟨k - 1, by omega⟩
      have : i = n := by omega
      subst this; rw [he]; rfl
    | succ d ih =>
      intro i k hi hk
      obtain ⟨k, rfl⟩ : ∃ m, k = m + 1 := ⟨k - 1, by omega⟩
      rw [hs k i (by omega) (by omega), List.range'_succ, List.all_cons]
      cases hb : b i
      · rfl
      · rw [if_pos rfl, ih (i + 1) k (by omega) (by omega)]; rfl
  intro k hk
  rw [List.range_eq_range']
  exact key n 0 k (by omega) hk
theorem firstS_ge' {α : Type} {p : α → Bool} : ∀ (xs : List α) (i : Nat), (match firstS (fun i a => if p a = true then none else some (i : Int)) i xs with
    | some x => decide (0 ≤ x)
    | none => false) = !xs.all p
  | [], i => rfl
  | a :: r, i => by
    rw [firstS]
    cases h : p a
    · simp [h]
    · simp only [if_true, List.all_cons, h, Bool.true_and]
      exact firstS_ge' r (i + 1)
end Gq
namespace Gp
open Gw Gq
/-! ### sets of tiles and patterns -/
def inCol (c : Int) : Bool := decide (0 ≤ c ∧ c < 1000)
def colB (t : Tile) : Bool := inCol t.N && inCol t.E && inCol t.S && inCol t.W
theorem idx_col (xs : List Int) (hl : xs.length ≤ 1000000) (k : Nat) (hk : xs.length < k) :
    slices_IndexFunc_int_int_with_tile_colour_1.l0 k 0 xs = some (fin (firstS (fun i a => if inCol a = true then none else some (i : Int)) 0 xs)) := by
  have := scan (F := fun k i => slices_IndexFunc_int_int_with_tile_colour_1.l0 k i xs) (xs := xs) (g := fun i a => if inCol a = true then none else some (i : Int)) (fun k i hi => by
    show slices_IndexFunc_int_int_with_tile_colour_1.l0 (k + 1) i xs = _
    rw [slices_IndexFunc_int_int_with_tile_colour_1.l0]
    by_cases h : i < xs.length
    · have h' : (i : Int) < (xs.length : Int) := by omega
      have h2 : 0 ≤ (i : Int) ∧ (i : Int) < (xs.length : Int) := by omega
      rw [dif_pos h, if_pos (by simpa using h'), if_pos h2, rdD_get h, tile_colour_1, w64_id (by omega) (by omega)]
      by_cases hb : 0 ≤ xs[i] ∧ xs[i] < 1000
      · have h3 : ¬ (xs[i] < 0 ∨ 1000 ≤ xs[i]) := by omega
        simp [inCol, hb]
        intro hh; exact absurd hh h3
      · have h3 : (xs[i] < 0 ∨ 1000 ≤ xs[i]) := by omega
        simp [inCol, hb, h3]
    · have h' : ¬ (i : Int) < (xs.length : Int) := by omega
      rw [dif_neg h, if_neg (by simpa using h')]) xs.length k 0 (by simp) hk
  simpa using this
theorem colour_eq (xs : List Int) (hl : xs.length ≤ 1000000) (k : Nat) (hk : xs.length < k) : tile_colour k xs = some (xs.all inCol) := by
  unfold tile_colour slices_ContainsFunc_int_int_with_tile_colour_1 slices_IndexFunc_int_int_with_tile_colour_1
  rw [idx_col xs hl k hk]
  have := firstS_ge' (p := inCol) xs 0
  cases hf : firstS (fun i a => if inCol a = true then none else some (i : Int)) 0 xs <;> rw [hf] at this <;> cases ha : xs.all inCol <;> rw [ha] at this <;> simp [fin, sumb] at this ⊢
  · exact this
  · exact this
def metS (set : List Tile) (i : Nat) : List (Tile × Bool) := (set.take i).map fun t => (t, true)
theorem mget_met (t : Tile) : ∀ l : List Tile, mget t false (l.map fun t => (t, true)) = decide (t ∈ l)
  | [] => rfl
  | a :: r => by
    simp only [List.map_cons, mget]
    by_cases h : t = a
    · simp [h]
    · rw [if_neg h, mget_met t r]; simp [h]
theorem mput_met (t : Tile) : ∀ l : List Tile, t ∉ l → mput t true (l.map fun t => (t, true)) = (l.map fun t => (t, true)) ++ [(t, true)]
  | [], _ => rfl
  | a :: r, h => by
    simp only [List.mem_cons, not_or] at h
    simp only [List.map_cons, mput, if_neg h.1, mput_met t r h.2, List.cons_append]
def newB (set : List Tile) (i : Nat) : Bool := !decide (set.getD i z_Tile ∈ set.take i) && colB (set.getD i z_Tile)
def validT (set : List Tile) : Bool := decide (set.length ≤ 1000) && (List.range set.length).all (newB set)
theorem tile_valid (set : List Tile) {k : Nat} (hk : 1006 ≤ k) (hl : set.length ≤ 9223372036854775807) : tile_Valid k set = some (validT set) := by
  unfold tile_Valid validT
  by_cases hb : set.length ≤ 1000
  · rw [if_neg (by simp; omega)]
    have := loop_all (F := fun k i (m : List (Tile × Bool)) => tile_Valid.l0 k m i set) (S := metS set) (b := newB set) (n := set.length) (K := 5) (r := false) (e := ()) (fun k i hk hi => by
      show tile_Valid.l0 (k + 1) (metS set i) i set = if newB set i = true then tile_Valid.l0 k (metS set (i + 1)) ((i + 1 : Nat) : Int) set else _
      rw [tile_Valid.l0, if_pos (by simpa using hi), if_pos (by omega), rdD_nat, metS, mget_met]
      have ht : set.getD i z_Tile = set[i] := by simp [List.getElem?_eq_getElem hi]
      unfold newB
      by_cases hm : set.getD i z_Tile ∈ set.take i
      · rw [if_pos (by simpa using hm), show decide (set.getD i z_Tile ∈ set.take i) = true from decide_eq_true hm]; rfl
      · rw [if_neg (by simpa using hm), colour_eq _ (by simp) k (by simp; omega), Option.bind_some, Option.bind_some]
        have hc : ([(set.getD i z_Tile).N, (set.getD i z_Tile).E, (set.getD i z_Tile).S, (set.getD i z_Tile).W].all inCol) = colB (set.getD i z_Tile) := by simp [colB, Bool.and_assoc]
        rw [hc]
        cases hcb : colB (set.getD i z_Tile)
        · simp
        · rw [mput_met _ _ hm, w64_id (by omega) (by omega)]
          simp only [hm, Bool.not_true, Bool.false_eq_true, if_false, decide_false, Bool.not_false, Bool.and_self, if_true]
          unfold metS
          rw [List.take_add_one, List.map_append, List.getElem?_eq_getElem hi, ht]; rfl) (fun k => by
      show tile_Valid.l0 (k + 1) (metS set set.length) set.length set = _
      rw [tile_Valid.l0, if_neg (by simp)]) k (by omega)
    have h0 : tile_Valid.l0 k [] 0 set = some (if (List.range set.length).all (newB set) = true then .inr () else .inl false) := this
    rw [h0]
    cases (List.range set.length).all (newB set) <;> simp [sumb, hb]
  · rw [if_pos (by simp; omega)]; simp [hb]
def formB (p : Pattern) : Bool := decide (1 ≤ p.Width ∧ 1 ≤ p.Height ∧ p.Width ≤ 40000 ∧ p.Height ≤ 40000 ∧ p.Width * p.Height ≤ 40000 ∧ (p.Cells.length : Int) = p.Width * p.Height)
theorem form_eq (p : Pattern) : tile_Form p = some (formB p) := by
  unfold tile_Form formB
  by_cases h : 1 ≤ p.Width ∧ 1 ≤ p.Height ∧ p.Width ≤ 40000 ∧ p.Height ≤ 40000
  · have h0 : 0 ≤ p.Width * p.Height := Int.mul_nonneg (by omega) (by omega)
    have h1 : p.Width * p.Height ≤ 40000 * 40000 := Int.mul_le_mul (by omega) (by omega) (by omega) (by omega)
    rw [w64_id (n := p.Width * p.Height) (by omega) (by omega)]
    simp [h]; rfl
  · congr 1
    have : ((((decide (p.Width ≥ 1)) && (decide (p.Height ≥ 1))) && (decide (p.Width ≤ 40000))) && (decide (p.Height ≤ 40000))) = false := by
      cases he : ((((decide (p.Width ≥ 1)) && (decide (p.Height ≥ 1))) && (decide (p.Width ≤ 40000))) && (decide (p.Height ≤ 40000)))
      · rfl
      · simp only [Bool.and_eq_true, decide_eq_true_eq] at he
        exact absurd ⟨he.1.1.1, he.1.1.2, he.1.2, he.2⟩ h
    rw [this]; simp only [Bool.false_and]
    exact (decide_eq_false (fun h' => h ⟨h'.1, h'.2.1, h'.2.2.1, h'.2.2.2.1⟩)).symm
def inSet (n : Nat) (c : Int) : Bool := decide (0 ≤ c ∧ c < (n : Int))
theorem idx_of (set : List Tile) (xs : List Int) (hl : xs.length ≤ 1000000) (k : Nat) (hk : xs.length < k) :
    slices_IndexFunc_int_int_with_tile_of_1.l0 k 0 xs set = some (fin (firstS (fun i a => if inSet set.length a = true then none else some (i : Int)) 0 xs)) := by
  have := scan (F := fun k i => slices_IndexFunc_int_int_with_tile_of_1.l0 k i xs set) (xs := xs) (g := fun i a => if inSet set.length a = true then none else some (i : Int)) (fun k i hi => by
    show slices_IndexFunc_int_int_with_tile_of_1.l0 (k + 1) i xs set = _
    rw [slices_IndexFunc_int_int_with_tile_of_1.l0]
    by_cases h : i < xs.length
    · have h' : (i : Int) < (xs.length : Int) := by omega
      have h2 : 0 ≤ (i : Int) ∧ (i : Int) < (xs.length : Int) := by omega
      rw [dif_pos h, if_pos (by simpa using h'), if_pos h2, rdD_get h, tile_of_1, w64_id (by omega) (by omega)]
      by_cases hb : 0 ≤ xs[i] ∧ xs[i] < (set.length : Int)
      · have h3 : ¬ (xs[i] < 0 ∨ (set.length : Int) ≤ xs[i]) := by omega
        simp [inSet, hb]
        intro hh; exact absurd hh h3
      · have h3 : (xs[i] < 0 ∨ (set.length : Int) ≤ xs[i]) := by omega
        simp [inSet, hb, h3]
    · have h' : ¬ (i : Int) < (xs.length : Int) := by omega
      rw [dif_neg h, if_neg (by simpa using h')]) xs.length k 0 (by simp) hk
  simpa using this
theorem contains_of (set : List Tile) (xs : List Int) (hl : xs.length ≤ 1000000) (k : Nat) (hk : xs.length < k) : slices_ContainsFunc_int_int_with_tile_of_1 k xs set = some (!xs.all (inSet set.length)) := by
  unfold slices_ContainsFunc_int_int_with_tile_of_1 slices_IndexFunc_int_int_with_tile_of_1
  rw [idx_of set xs hl k hk]
  have := firstS_ge' (p := inSet set.length) xs 0
  cases hf : firstS (fun i a => if inSet set.length a = true then none else some (i : Int)) 0 xs <;> rw [hf] at this <;> cases ha : xs.all (inSet set.length) <;> rw [ha] at this <;> simp [fin, sumb] at this ⊢
  · exact this
  · exact this
def ofB (set : List Tile) (p : Pattern) : Bool := validT set && formB p && p.Cells.all (inSet set.length)
theorem formB_len {p : Pattern} (h : formB p = true) : p.Cells.length ≤ 40000 := by
  unfold formB at h
  simp only [decide_eq_true_eq] at h
  omega
theorem of_eq (set : List Tile) (p : Pattern) {k : Nat} (hk : 40001 ≤ k) (hl : set.length ≤ 9223372036854775807) : tile_of k set p = some (ofB set p) := by
  unfold tile_of ofB
  rw [tile_valid set (by omega) hl, Option.bind_some, form_eq]
  cases hv : validT set
  · rfl
  · rw [if_pos rfl]
    cases hf : formB p
    · rfl
    · have := formB_len hf
      rw [Option.bind_some, Option.bind_some, if_pos rfl, contains_of set p.Cells (by omega) k (by omega)]
      simp
def tl (set : List Tile) (p : Pattern) (j : Nat) : Tile := set.getD (p.Cells.getD j 0).toNat z_Tile
def rightB (set : List Tile) (p : Pattern) (W H : Nat) (round : Bool) (i : Nat) : Bool := !(decide (i % W + 1 < W) || round) || (tl set p i).E == (tl set p (i / W * W + (i % W + 1) % W)).W
def upB (set : List Tile) (p : Pattern) (W H : Nat) (round : Bool) (i : Nat) : Bool := !(decide (i / W + 1 < H) || round) || (tl set p i).N == (tl set p ((i / W + 1) % H * W + i % W)).S
structure PForm (set : List Tile) (p : Pattern) (W H : Nat) : Prop where
  w : p.Width = W
  h : p.Height = H
  dW : 1 ≤ W ∧ W ≤ 40000
  dH : 1 ≤ H ∧ H ≤ 40000
  wh : H * W ≤ 40000
  len : p.Cells.length = H * W
  cel : ∀ j, j < H * W → 0 ≤ p.Cells.getD j 0 ∧ p.Cells.getD j 0 < (set.length : Int)
theorem ofB_iff {set : List Tile} {p : Pattern} (h : ofB set p = true) : validT set = true ∧ ∃ W H, PForm set p W H := by
  unfold ofB at h
  simp only [Bool.and_eq_true, List.all_eq_true] at h
  obtain ⟨⟨h1, h2⟩, h3⟩ := h
  refine ⟨h1, p.Width.toNat, p.Height.toNat, ?_⟩
  unfold formB at h2
  simp only [decide_eq_true_eq] at h2
  obtain ⟨a1, a2, a3, a4, a5, a6⟩ := h2
  have e : ((p.Height.toNat * p.Width.toNat : Nat) : Int) = p.Width * p.Height := by rw [Int.natCast_mul, Int.toNat_of_nonneg (by omega), Int.toNat_of_nonneg (by omega), Int.mul_comm]
  refine ⟨by omega, by omega, by omega, by omega, by omega, by omega, fun j hj => ?_⟩
  have hj2 : j < p.Cells.length := by omega
  have := h3 (p.Cells.getD j 0) (by rw [show p.Cells.getD j 0 = p.Cells[j] from by simp [List.getElem?_eq_getElem hj2]]; exact List.getElem_mem _)
  simpa [inSet] using this
theorem PForm.tl {set : List Tile} {p : Pattern} {W H : Nat} (f : PForm set p W H) {j : Nat} (hj : j < H * W) : rdD set (p.Cells.getD j 0) z_Tile = Gp.tl set p j ∧ (0 ≤ p.Cells.getD j 0 ∧ p.Cells.getD j 0 < (set.length : Int)) := ⟨rfl, f.cel j hj⟩
theorem place_lt {W H x y : Nat} (hx : x < W) (hy : y < H) : y * W + x < H * W := by
  have := Nat.mul_le_mul_right W (show y + 1 ≤ H by omega)
  rw [Nat.succ_mul] at this; omega
theorem joins_eq {set : List Tile} {p : Pattern} {W H : Nat} (f : PForm set p W H) (round : Bool) {k : Nat} (hk : 40001 ≤ k) : tile_joins k set p round = some ((List.range (H * W)).all fun i => rightB set p W H round i && upB set p W H round i) := by
  have hwh := f.wh
  have hdW := f.dW
  have hdH := f.dH
  unfold tile_joins
  have := loop_all (F := fun k i (_ : Unit) => tile_joins.l0 k i set p round) (S := fun _ => ()) (b := fun i => rightB set p W H round i && upB set p W H round i) (n := H * W) (K := 0) (r := false) (e := ()) (fun k i _ hi => by
    show tile_joins.l0 (k + 1) i set p round = if (rightB set p W H round i && upB set p W H round i) = true then tile_joins.l0 k ((i + 1 : Nat) : Int) set p round else _
    obtain ⟨y, hyd⟩ : ∃ y, i / W = y := ⟨_, rfl⟩
    obtain ⟨x, hxd⟩ : ∃ x, i % W = x := ⟨_, rfl⟩
    obtain ⟨x2, hx2d⟩ : ∃ x2, (x + 1) % W = x2 := ⟨_, rfl⟩
    obtain ⟨y2, hy2d⟩ : ∃ y2, (y + 1) % H = y2 := ⟨_, rfl⟩
    have hx : x < W := hxd ▸ Nat.mod_lt _ (by omega)
    have hy : y < H := hyd ▸ Nat.div_lt_of_lt_mul (by rw [Nat.mul_comm]; exact hi)
    have hx2 : x2 < W := hx2d ▸ Nat.mod_lt _ (by omega)
    have hy2 : y2 < H := hy2d ▸ Nat.mod_lt _ (by omega)
    have hr := place_lt hx2 hy
    have hu := place_lt hx hy2
    have e1 : Int.tmod (i : Int) (W : Int) = (x : Int) := by rw [← hxd]; rfl
    have e2 : Int.tdiv (i : Int) (W : Int) = (y : Int) := by rw [← hyd]; rfl
    have e3 : w64 ((x : Int) + 1) = ((x + 1 : Nat) : Int) := by rw [w64_id (by omega) (by omega)]; rfl
    have e4 : w64 (y : Int) = (y : Int) := w64_id (by omega) (by omega)
    have e5 : w64 ((y : Int) + 1) = ((y + 1 : Nat) : Int) := by rw [w64_id (by omega) (by omega)]; rfl
    have e6 : Int.tmod ((x + 1 : Nat) : Int) (W : Int) = (x2 : Int) := by rw [← hx2d]; rfl
    have e7 : Int.tmod ((y + 1 : Nat) : Int) (H : Int) = (y2 : Int) := by rw [← hy2d]; rfl
    have e8 : w64 (w64 ((y : Int) * (W : Int)) + (x2 : Int)) = ((y * W + x2 : Nat) : Int) := by
      rw [← Int.natCast_mul, w64_id (n := ((y * W : Nat) : Int)) (by omega) (by omega), w64_id (by omega) (by omega)]; rfl
    have e9 : w64 (w64 ((y2 : Int) * (W : Int)) + (x : Int)) = ((y2 * W + x : Nat) : Int) := by
      rw [← Int.natCast_mul, w64_id (n := ((y2 * W : Nat) : Int)) (by omega) (by omega), w64_id (by omega) (by omega)]; rfl
    have c0 := f.tl hi
    have c1 := f.tl hr
    have c2 := f.tl hu
    have b1 : 0 ≤ ((y * W + x2 : Nat) : Int) ∧ ((y * W + x2 : Nat) : Int) < (p.Cells.length : Int) := by rw [f.len]; omega
    have b2 : 0 ≤ ((y2 * W + x : Nat) : Int) ∧ ((y2 * W + x : Nat) : Int) < (p.Cells.length : Int) := by rw [f.len]; omega
    rw [tile_joins.l0, if_pos (decide_eq_true (by rw [f.len]; exact Int.ofNat_lt.2 hi)), if_pos (by rw [f.len]; omega), f.w, f.h, if_pos (by omega)]
    simp only [e1, e2, e3, e4, e5, e6, e7, e8, e9, rdD_nat, if_pos c0.2, if_pos c1.2, if_pos c2.2, if_pos b1, if_pos b2, c0.1, c1.1, c2.1]
    have g1 : decide (((x + 1 : Nat) : Int) < (W : Int)) = decide (x + 1 < W) := by congr 1; apply propext; omega
    have g2 : decide (((y + 1 : Nat) : Int) < (H : Int)) = decide (y + 1 < H) := by congr 1; apply propext; omega
    have g3 : (H : Int) ≠ 0 := by omega
    rw [g1, g2]
    have e10 : w64 ((i : Int) + 1) = ((i + 1 : Nat) : Int) := by rw [w64_id (by omega) (by omega)]; rfl
    simp only [if_pos g3, e10]
    unfold rightB upB
    rw [hyd, hxd, hx2d, hy2d]
    cases (decide (x + 1 < W) || round) <;> cases (decide (y + 1 < H) || round)
    · simp [sumb]
    · cases hN : ((tl set p i).N == (tl set p (y2 * W + x)).S) <;> simp [sumb, hN, bne]
    · cases hE : ((tl set p i).E == (tl set p (y * W + x2)).W) <;> simp [sumb, hE, bne]
    · cases hE : ((tl set p i).E == (tl set p (y * W + x2)).W) <;> cases hN : ((tl set p i).N == (tl set p (y2 * W + x)).S) <;> simp [sumb, hE, hN, bne]) (fun k => by
    show tile_joins.l0 (k + 1) ((H * W : Nat) : Int) set p round = _
    rw [tile_joins.l0, if_neg (by rw [f.len]; simp)]) k (by omega)
  have h0 : tile_joins.l0 k 0 set p round = some (if ((List.range (H * W)).all fun i => rightB set p W H round i && upB set p W H round i) = true then .inr () else .inl false) := this
  rw [h0]
  cases ((List.range (H * W)).all fun i => rightB set p W H round i && upB set p W H round i) <;> rfl
end Gp
set_option linter.unusedVariables false
set_option linter.unusedSimpArgs false
namespace Gp
open Gw Gq
/-! ### the pictures are patterns of the tiles -/
theorem PForm.of {set : List Tile} {p : Pattern} {W H : Nat} (f : PForm set p W H) (hv : validT set = true) : ofB set p = true := by
  unfold ofB formB
  have h1 := f.dW; have h2 := f.dH; have h3 := f.wh
  have e : p.Width * p.Height = ((H * W : Nat) : Int) := by rw [f.w, f.h, Int.natCast_mul, Int.mul_comm]
  rw [hv, e, f.w, f.h, f.len]
  simp only [Bool.true_and, Bool.and_eq_true, decide_eq_true_eq, List.all_eq_true]
  refine ⟨⟨by omega, by omega, by omega, by omega, by omega, trivial⟩, fun a ha => ?_⟩
  obtain ⟨j, hj, he⟩ := List.mem_iff_getElem.1 ha
  have := f.cel j (by rw [← f.len]; exact hj)
  rw [show p.Cells.getD j 0 = p.Cells[j] from by simp [List.getElem?_eq_getElem hj], he] at this
  unfold inSet; exact decide_eq_true this
end Gp
set_option linter.unusedVariables false
set_option linter.unusedSimpArgs false
namespace Gq
end Gq
namespace Gp
open Gw Gq
/-! ### the patterns of the statements' own reference -/
end Gp
set_option linter.unusedVariables false
set_option linter.unusedSimpArgs false
namespace Gp
open Gw Gq
end Gp
set_option linter.unusedVariables false
set_option linter.unusedSimpArgs false
namespace Gp
open Gw Gq
/-! ### a torus, repeated -/
theorem repeats_eq {set : List Tile} {p : Pattern} {W H : Nat} (f : PForm set p W H) (hv : validT set = true) (hl : set.length ≤ 9223372036854775807) {k : Nat} (hk : 40001 ≤ k) : tile_Repeats k set p = some ((List.range (H * W)).all fun i => rightB set p W H true i && upB set p W H true i) := by
  unfold tile_Repeats
  rw [of_eq set p hk hl, f.of hv, Option.bind_some, if_pos rfl, joins_eq f true hk]; rfl
end Gp
set_option linter.unusedVariables false
set_option linter.unusedSimpArgs false
namespace Gp
open Gw Gq
/-! ### the first layer's reference -/
theorem colour01 (c : Int) : ref01_colour c = some (inCol c) := by
  unfold ref01_colour inCol
  by_cases h : 0 ≤ c ∧ c < 1000
  · simp [h]
  · rw [decide_eq_false h]
    congr 1
    cases h1 : decide (c ≥ 0)
    · rfl
    · have : ¬ c < 1000 := fun h2 => h ⟨by simpa using h1, h2⟩
      simp [this]
theorem index01 {set : List Tile} (hl : set.length ≤ 1000000) (t : Tile) {k : Nat} (hk : set.length < k) : ∃ r : Int, ref01_Index k set t = some r ∧ decide (r ≥ 0) = decide (t ∈ set) := by
  have := scan (F := fun k i => ref01_Index.l0 k i set t) (xs := set) (g := fun i a => if a = t then some (i : Int) else none) (fun k i hi => by
    show ref01_Index.l0 (k + 1) i set t = _
    rw [ref01_Index.l0]
    by_cases h : i < set.length
    · have h2 : 0 ≤ (i : Int) ∧ (i : Int) < (set.length : Int) := by omega
      rw [dif_pos h, if_pos (by simpa using h), if_pos h2, rdD_get h, w64_id (by omega) (by omega)]
      by_cases hb : set[i] = t
      · subst hb; simp
      · have : ((set[i].N == t.N) && ((set[i].E == t.E) && ((set[i].S == t.S) && (set[i].W == t.W)))) = false := by
          cases hc : ((set[i].N == t.N) && ((set[i].E == t.E) && ((set[i].S == t.S) && (set[i].W == t.W))))
          · rfl
          · simp only [Bool.and_eq_true, beq_iff_eq] at hc
            exact absurd (Tile.ext' hc.1 hc.2.1 hc.2.2.1 hc.2.2.2) hb
        rw [this, if_neg hb]; rfl
    · rw [dif_neg h, if_neg (by simpa using h)]) set.length k 0 (by simp) hk
  have h0 : ref01_Index.l0 k 0 set t = some (fin (firstS (fun i a => if a = t then some (i : Int) else none) 0 (set.drop 0))) := this
  rw [List.drop_zero] at h0
  have key : ∀ (l : List Tile) (i : Nat), match firstS (fun i a => if a = t then some (i : Int) else none) i l with
      | some x => decide (x ≥ 0) = decide (t ∈ l)
      | none => decide (t ∈ l) = false := by
    intro l
    induction l with
    | nil => intro i; simp [firstS]
    | cons a r ih =>
      intro i
      rw [firstS]
      by_cases ha : a = t
      · subst ha; simp
      · have hne : ¬ t = a := fun e => ha e.symm
        rw [if_neg ha]
        have := ih (i + 1)
        cases hf : firstS (fun i a => if a = t then some (i : Int) else none) (i + 1) r with
        | none => rw [hf] at this; simp only [List.mem_cons, hne, false_or]; exact this
        | some x => rw [hf] at this; simp only [List.mem_cons, hne, false_or]; exact this
  unfold ref01_Index
  rw [h0]
  have hk2 := key set 0
  cases hf : firstS (fun i a => if a = t then some (i : Int) else none) 0 set with
  | none => rw [hf] at hk2; exact ⟨-1, rfl, by rw [hk2]; rfl⟩
  | some x => rw [hf] at hk2; exact ⟨x, rfl, hk2⟩
theorem valid01 (set : List Tile) {k : Nat} (hk : 2002 < k) (hl : set.length ≤ 9223372036854775807) : ref01_Valid k set = some (validT set) := by
  unfold ref01_Valid validT
  by_cases hb : set.length ≤ 1000
  · rw [if_neg (by simp; omega)]
    have := loop_all (F := fun k i (_ : Unit) => ref01_Valid.l0 k i set) (S := fun _ => ()) (b := newB set) (n := set.length) (K := 1001) (r := false) (e := ()) (fun k i hk hi => by
      show ref01_Valid.l0 (k + 1) i set = if newB set i = true then ref01_Valid.l0 k ((i + 1 : Nat) : Int) set else _
      have hcut : cut set (0 : Int) (i : Int) = set.take i := by unfold cut; simp
      obtain ⟨r, hr, hd⟩ := index01 (set := set.take i) (by rw [List.length_take]; omega) (set.getD i z_Tile) (k := k) (by rw [List.length_take]; omega)
      rw [ref01_Valid.l0, if_pos (by simpa using hi), if_pos (by omega)]
      simp only [rdD_nat, colour01, Option.bind_some, hcut]
      rw [if_pos (⟨by omega, by omega, by omega⟩ : 0 ≤ (0 : Int) ∧ (0 : Int) ≤ (i : Int) ∧ (i : Int) ≤ (set.length : Int)), hr, w64_id (by omega) (by omega)]
      simp only [Option.bind_some, hd]
      unfold newB colB
      cases inCol (set.getD i z_Tile).N
      · simp
      · cases inCol (set.getD i z_Tile).E
        · simp
        · cases inCol (set.getD i z_Tile).S
          · simp
          · cases inCol (set.getD i z_Tile).W
            · simp
            · cases decide (set.getD i z_Tile ∈ set.take i) <;> simp) (fun k => by
      show ref01_Valid.l0 (k + 1) set.length set = _
      rw [ref01_Valid.l0, if_neg (by simp)]) k (by omega)
    have h0 : ref01_Valid.l0 k 0 set = some (if (List.range set.length).all (newB set) = true then .inr () else .inl false) := this
    rw [h0]
    cases (List.range set.length).all (newB set) <;> simp [sumb, hb]
  · rw [if_pos (by simp; omega)]; simp [hb]
end Gp
set_option linter.unusedVariables false
set_option linter.unusedSimpArgs false
namespace Gp
open Gw Gq
/-! ### grids: lists of rows -/
def grid (w h : Nat) (g : Nat → Nat → Int) : List Int := (List.range h).flatMap fun y => (List.range w).map (g y)
theorem grid_len (w h : Nat) (g : Nat → Nat → Int) : (grid w h g).length = h * w := flat_len (f := fun y => (List.range w).map (g y)) (b := w) (fun y => by simp) h
theorem grid_get (w h : Nat) (g : Nat → Nat → Int) {x y : Nat} (hx : x < w) (hy : y < h) : (grid w h g).getD (y * w + x) 0 = g y x := by
  have := flat_get (f := fun y => (List.range w).map (g y)) (n := h) (q := y) (j := x) (t := g y x) hy (by simp [hx])
  have e : ((List.range y).flatMap fun y => (List.range w).map (g y)).length = y * w := grid_len w y g
  rw [e] at this
  unfold grid
  rw [List.getD_eq_getElem?_getD, this]; rfl
/-! ### stores into a list -/
def sets (l : List Int) (q : List (Nat × Int)) : List Int := q.foldl (fun l p => l.set p.1 p.2) l
/-! ### patterns that have the form of one -/
structure GForm (p : Pattern) (W H : Nat) : Prop where
  w : p.Width = W
  h : p.Height = H
  dW : 1 ≤ W ∧ W ≤ 40000
  dH : 1 ≤ H ∧ H ≤ 40000
  wh : H * W ≤ 40000
  len : p.Cells.length = H * W
theorem GForm.form {p : Pattern} {W H : Nat} (f : GForm p W H) : formB p = true := by
  have h1 := f.dW; have h2 := f.dH; have h3 := f.wh
  have e : p.Width * p.Height = ((H * W : Nat) : Int) := by rw [f.w, f.h, Int.natCast_mul, Int.mul_comm]
  unfold formB; rw [e, f.w, f.h, f.len]; exact decide_eq_true ⟨by omega, by omega, by omega, by omega, by omega, rfl⟩
theorem PForm.g {set : List Tile} {p : Pattern} {W H : Nat} (f : PForm set p W H) : GForm p W H := ⟨f.w, f.h, f.dW, f.dH, f.wh, f.len⟩
def cellG (p : Pattern) (W y x : Nat) : Int := p.Cells.getD (y * W + x) 0
theorem GForm.at {p : Pattern} {W H : Nat} (f : GForm p W H) {x y : Nat} (hx : x < W) (hy : y < H) : w64 (w64 ((y : Int) * (W : Int)) + (x : Int)) = ((y * W + x : Nat) : Int) ∧ (0 ≤ ((y * W + x : Nat) : Int) ∧ ((y * W + x : Nat) : Int) < (p.Cells.length : Int)) := by
  have hwh := f.wh
  have hp := place_lt hx hy
  refine ⟨?_, by omega, by rw [f.len]; omega⟩
  rw [← Int.natCast_mul, w64_id (n := ((y * W : Nat) : Int)) (by omega) (by omega), w64_id (by omega) (by omega)]; rfl
/-! ### the changed patterns -/
end Gp
set_option linter.unusedVariables false
set_option linter.unusedSimpArgs false
namespace Gp
open Gw Gq
/-! ### cuts -/
/-! ### patterns, repeated -/
/-! ### what is equal -/
end Gp
set_option linter.unusedVariables false
set_option linter.unusedSimpArgs false
namespace Gp
open Gw Gq
/-! ### changed sets -/
structure Chg (f : Tile → Tile) : Prop where
  inj : ∀ a b, f a = f b → a = b
  col : ∀ t, colB (f t) = colB t
theorem getD_map (f : Tile → Tile) {s : List Tile} {i : Nat} (h : i < s.length) : (s.map f).getD i z_Tile = f (s.getD i z_Tile) := by simp [List.getElem?_eq_getElem h]
theorem Chg.valid {f : Tile → Tile} (c : Chg f) {s : List Tile} (hv : validT s = true) : validT (s.map f) = true := by
  unfold validT at hv ⊢
  simp only [Bool.and_eq_true, decide_eq_true_eq, List.all_eq_true, List.mem_range, List.length_map] at hv ⊢
  refine ⟨hv.1, fun i hi => ?_⟩
  have := hv.2 i hi
  unfold newB at this ⊢
  rw [getD_map f hi, ← List.map_take, c.col]
  simp only [Bool.and_eq_true, Bool.not_eq_true', decide_eq_false_iff_not] at this ⊢
  refine ⟨fun hm => this.1 ?_, this.2⟩
  obtain ⟨a, ha, he⟩ := List.mem_map.1 hm
  rw [← c.inj _ _ he]; exact ha
/-! ### how the tiles of a grid meet -/
def JP (W H : Nat) (round : Bool) (T : Nat → Nat → Tile) : Prop :=
  (∀ y x, y < H → x < W → (x + 1 < W ∨ round = true) → (T y x).E = (T y ((x + 1) % W)).W) ∧ (∀ y x, y < H → x < W → (y + 1 < H ∨ round = true) → (T y x).N = (T ((y + 1) % H) x).S)
theorem JP.congr {W H : Nat} {round : Bool} {T T' : Nat → Nat → Tile} (he : ∀ y x, y < H → x < W → T y x = T' y x) (h : JP W H round T) : JP W H round T' := by
  refine ⟨fun y x hy hx hr => ?_, fun y x hy hx hr => ?_⟩
  · rw [← he y x hy hx, ← he y _ hy (Nat.mod_lt _ (by omega))]; exact h.1 y x hy hx hr
  · rw [← he y x hy hx, ← he _ x (Nat.mod_lt _ (by omega)) hx]; exact h.2 y x hy hx hr
def GP (W H : Nat) (c : Nat → Nat → Int) : Pattern := ⟨W, H, grid W H c⟩
def TT (s : List Tile) (c : Nat → Nat → Int) (y x : Nat) : Tile := s.getD (c y x).toNat z_Tile
structure GOK (s : List Tile) (W H : Nat) (c : Nat → Nat → Int) (whole : Bool) : Prop where
  valid : validT s = true
  dW : 1 ≤ W ∧ W ≤ 40000
  dH : 1 ≤ H ∧ H ≤ 40000
  wh : H * W ≤ 40000
  cel : ∀ y x, y < H → x < W → 0 ≤ c y x ∧ c y x < (s.length : Int)
  fits : JP W H false (TT s c)
  round : whole = true ↔ JP W H true (TT s c)
theorem valid_len {s : List Tile} (hv : validT s = true) : s.length ≤ 1000 := by unfold validT at hv; simp only [Bool.and_eq_true, decide_eq_true_eq] at hv; exact hv.1
theorem GOK.congr {s : List Tile} {W H : Nat} {c c' : Nat → Nat → Int} {whole : Bool} (g : GOK s W H c whole) (he : ∀ y x, y < H → x < W → c y x = c' y x) : GOK s W H c' whole := by
  have ht : ∀ y x, y < H → x < W → TT s c y x = TT s c' y x := fun y x hy hx => by unfold TT; rw [he y x hy hx]
  exact ⟨g.valid, g.dW, g.dH, g.wh, fun y x hy hx => by rw [← he y x hy hx]; exact g.cel y x hy hx, g.fits.congr ht, g.round.trans ⟨fun h => h.congr ht, fun h => h.congr (fun y x hy hx => (ht y x hy hx).symm)⟩⟩
/-! mirrored -/
theorem GP.g {W H : Nat} {c : Nat → Nat → Int} (dW : 1 ≤ W ∧ W ≤ 40000) (dH : 1 ≤ H ∧ H ≤ 40000) (wh : H * W ≤ 40000) : GForm (GP W H c) W H := ⟨rfl, rfl, dW, dH, wh, grid_len W H c⟩
theorem GP.cell {W H : Nat} (c : Nat → Nat → Int) {y x : Nat} (hy : y < H) (hx : x < W) : cellG (GP W H c) W y x = c y x := grid_get W H c hx hy
end Gp
set_option linter.unusedVariables false
set_option linter.unusedSimpArgs false
namespace Gp
open Gw Gq
theorem awake04_ok (k : Nat) : law04_awake (k + 1300) = some true := by kernel_rfl
/-! numbers of pairs -/
theorem mget_put {κ ν : Type} [DecidableEq κ] (x y : κ) (z v : ν) : ∀ l : List (κ × ν), mget x z (mput y v l) = if x = y then v else mget x z l
  | [] => by simp [mput, mget]
  | p :: r => by
    simp only [mput]
    by_cases h : y = p.1
    · rw [if_pos h]
      simp only [mget]
      by_cases hx : x = y
      · rw [if_pos hx, if_pos hx]
      · rw [if_neg hx, if_neg hx, if_neg (fun e => hx (e.trans h.symm))]
    · rw [if_neg h]
      simp only [mget]
      by_cases hx : x = p.1
      · rw [if_pos hx, if_pos hx, if_neg (fun e => h (e.symm.trans hx))]
      · rw [if_neg hx, if_neg hx]; exact mget_put x y z v r
end Gp
set_option linter.unusedVariables false
set_option linter.unusedSimpArgs false
namespace Gp
open Gw Gq
end Gp
set_option linter.unusedVariables false
set_option linter.unusedSimpArgs false
namespace Gp
open Gw Gq
/-! the reference -/
end Gp
set_option linter.unusedVariables false
set_option linter.unusedSimpArgs false
namespace Gp
open Gw Gq
end Gp
set_option linter.unusedVariables false
set_option linter.unusedSimpArgs false
set_option maxRecDepth 4000
namespace Gp
open Gw Gq
end Gp
set_option linter.unusedVariables false
set_option linter.unusedSimpArgs false
namespace Gp
open Gw Gq
end Gp
set_option linter.unusedVariables false
set_option linter.unusedSimpArgs false
namespace Gp
open Gw Gq
theorem validT_iff4 (s : List Tile) : validT s = true ↔ s.length ≤ 1000 ∧ s.Nodup ∧ ∀ t ∈ s, colB t = true := by
  unfold validT
  simp only [Bool.and_eq_true, decide_eq_true_eq, List.all_eq_true, List.mem_range]
  have hg : ∀ i (h : i < s.length), s.getD i z_Tile = s[i] := fun i h => by simp [List.getElem?_eq_getElem h]
  refine and_congr_right fun _ => ⟨fun h => ⟨?_, fun t ht => ?_⟩, fun h i hi => ?_⟩
  · rw [List.Nodup, List.pairwise_iff_getElem]
    intro i j hi hj hij he
    have := h j hj
    unfold newB at this
    rw [hg j hj, Bool.and_eq_true, Bool.not_eq_true', decide_eq_false_iff_not] at this
    exact this.1 (by rw [← he]; exact List.mem_take_iff_getElem.2 ⟨i, by omega, rfl⟩)
  · obtain ⟨i, hi, rfl⟩ := List.getElem_of_mem ht
    have := h i hi
    unfold newB at this
    rw [hg i hi, Bool.and_eq_true] at this
    exact this.2
  · unfold newB
    rw [hg i hi, h.2 _ (List.getElem_mem hi), Bool.and_true, Bool.not_eq_true', decide_eq_false_iff_not]
    intro hm
    obtain ⟨j, hj, he⟩ := List.mem_take_iff_getElem.1 hm
    have := h.1
    rw [List.Nodup, List.pairwise_iff_getElem] at this
    exact this j i (by omega) hi (by omega) he
end Gp
set_option linter.unusedVariables false
set_option linter.unusedSimpArgs false
namespace Gp
open Gw Gq
end Gp
set_option linter.unusedVariables false
set_option linter.unusedSimpArgs false
namespace Gp
open Gw Gq
end Gp
set_option linter.unusedVariables false
set_option linter.unusedSimpArgs false
namespace Gp
open Gw Gq
theorem cols_north_l0 (s : List Tile) (L : List Int) (hL : ∀ j ∈ L, 0 ≤ j ∧ j < (s.length : Int)) (hl : L.length ≤ 1000000) : ∀ (d x k : Nat) (m0 : List (Int × Bool)), x + d = L.length → d < k → (∀ c, mget c false m0 = (L.take x).any fun j => decide ((rdD s j z_Tile).N = c)) →
    ∃ m, strip_rest_colours_with_strip_north.l0 k m0 x ⟨s, L⟩ = some m ∧ ∀ c, mget c false m = L.any fun j => decide ((rdD s j z_Tile).N = c)
  | 0, x, k, m0, e, hk, h => by
    obtain ⟨k, rfl⟩ : ∃ m, k = m + 1 := ⟨k - 1, by omega⟩
    refine ⟨m0, by rw [strip_rest_colours_with_strip_north.l0, if_neg (by simp; omega)], fun c => ?_⟩
    rw [h c, List.take_of_length_le (by omega)]
  | d + 1, x, k, m0, e, hk, h => by
    obtain ⟨k, rfl⟩ : ∃ m, k = m + 1 := ⟨k - 1, by omega⟩
    have hlt : x < L.length := by omega
    have hwx : w64 ((x : Int) + 1) = ((x + 1 : Nat) : Int) := by rw [w64_id (by omega) (by omega)]; rfl
    have hj := hL L[x] (List.getElem_mem hlt)
    obtain ⟨m, e1, h1⟩ := cols_north_l0 s L hL hl d (x + 1) k (mput (rdD s L[x] z_Tile).N true m0) (by omega) (by omega) (fun c => by
      rw [mget_put, h c, List.take_succ_eq_append_getElem hlt, List.any_append]
      by_cases hc : c = (rdD s L[x] z_Tile).N
      · rw [if_pos hc]; simp [hc]
      · have hd : decide ((rdD s L[x] z_Tile).N = c) = false := decide_eq_false fun e => hc e.symm
        rw [if_neg hc, List.any_cons, List.any_nil, hd, Bool.or_false, Bool.or_false])
    refine ⟨m, ?_, h1⟩
    rw [strip_rest_colours_with_strip_north.l0, if_pos (by simpa using hlt), if_pos (by simp; omega)]
    simp only [rdD_get hlt]
    rw [if_pos hj, hwx]
    show (Option.bind (some (rdD s L[x] z_Tile).N) _) = _
    rw [Option.bind_some]
    exact e1
theorem cols_north (s : List Tile) (L : List Int) (hL : ∀ j ∈ L, 0 ≤ j ∧ j < (s.length : Int)) (hl : L.length ≤ 1000000) {k : Nat} (hk : L.length < k) : ∃ m, strip_rest_colours_with_strip_north k ⟨s, L⟩ = some m ∧ ∀ c, mget c false m = L.any fun j => decide ((rdD s j z_Tile).N = c) := by
  obtain ⟨m, e1, h1⟩ := cols_north_l0 s L hL hl L.length 0 k [] (by omega) hk (fun c => by simp [mget])
  have e1 : strip_rest_colours_with_strip_north.l0 k [] 0 ⟨s, L⟩ = some m := e1
  exact ⟨m, by unfold strip_rest_colours_with_strip_north; rw [e1]; rfl, h1⟩
theorem cols_east_l0 (s : List Tile) (L : List Int) (hL : ∀ j ∈ L, 0 ≤ j ∧ j < (s.length : Int)) (hl : L.length ≤ 1000000) : ∀ (d x k : Nat) (m0 : List (Int × Bool)), x + d = L.length → d < k → (∀ c, mget c false m0 = (L.take x).any fun j => decide ((rdD s j z_Tile).E = c)) →
    ∃ m, strip_rest_colours_with_strip_east.l0 k m0 x ⟨s, L⟩ = some m ∧ ∀ c, mget c false m = L.any fun j => decide ((rdD s j z_Tile).E = c)
  | 0, x, k, m0, e, hk, h => by
    obtain ⟨k, rfl⟩ : ∃ m, k = m + 1 := ⟨k - 1, by omega⟩
    refine ⟨m0, by rw [strip_rest_colours_with_strip_east.l0, if_neg (by simp; omega)], fun c => ?_⟩
    rw [h c, List.take_of_length_le (by omega)]
  | d + 1, x, k, m0, e, hk, h => by
    obtain ⟨k, rfl⟩ : ∃ m, k = m + 1 := ⟨k - 1, by omega⟩
    have hlt : x < L.length := by omega
    have hwx : w64 ((x : Int) + 1) = ((x + 1 : Nat) : Int) := by rw [w64_id (by omega) (by omega)]; rfl
    have hj := hL L[x] (List.getElem_mem hlt)
    obtain ⟨m, e1, h1⟩ := cols_east_l0 s L hL hl d (x + 1) k (mput (rdD s L[x] z_Tile).E true m0) (by omega) (by omega) (fun c => by
      rw [mget_put, h c, List.take_succ_eq_append_getElem hlt, List.any_append]
      by_cases hc : c = (rdD s L[x] z_Tile).E
      · rw [if_pos hc]; simp [hc]
      · have hd : decide ((rdD s L[x] z_Tile).E = c) = false := decide_eq_false fun e => hc e.symm
        rw [if_neg hc, List.any_cons, List.any_nil, hd, Bool.or_false, Bool.or_false])
    refine ⟨m, ?_, h1⟩
    rw [strip_rest_colours_with_strip_east.l0, if_pos (by simpa using hlt), if_pos (by simp; omega)]
    simp only [rdD_get hlt]
    rw [if_pos hj, hwx]
    show (Option.bind (some (rdD s L[x] z_Tile).E) _) = _
    rw [Option.bind_some]
    exact e1
theorem cols_east (s : List Tile) (L : List Int) (hL : ∀ j ∈ L, 0 ≤ j ∧ j < (s.length : Int)) (hl : L.length ≤ 1000000) {k : Nat} (hk : L.length < k) : ∃ m, strip_rest_colours_with_strip_east k ⟨s, L⟩ = some m ∧ ∀ c, mget c false m = L.any fun j => decide ((rdD s j z_Tile).E = c) := by
  obtain ⟨m, e1, h1⟩ := cols_east_l0 s L hL hl L.length 0 k [] (by omega) hk (fun c => by simp [mget])
  have e1 : strip_rest_colours_with_strip_east.l0 k [] 0 ⟨s, L⟩ = some m := e1
  exact ⟨m, by unfold strip_rest_colours_with_strip_east; rw [e1]; rfl, h1⟩
theorem cols_south_l0 (s : List Tile) (L : List Int) (hL : ∀ j ∈ L, 0 ≤ j ∧ j < (s.length : Int)) (hl : L.length ≤ 1000000) : ∀ (d x k : Nat) (m0 : List (Int × Bool)), x + d = L.length → d < k → (∀ c, mget c false m0 = (L.take x).any fun j => decide ((rdD s j z_Tile).S = c)) →
    ∃ m, strip_rest_colours_with_strip_south.l0 k m0 x ⟨s, L⟩ = some m ∧ ∀ c, mget c false m = L.any fun j => decide ((rdD s j z_Tile).S = c)
  | 0, x, k, m0, e, hk, h => by
    obtain ⟨k, rfl⟩ : ∃ m, k = m + 1 := ⟨k - 1, by omega⟩
    refine ⟨m0, by rw [strip_rest_colours_with_strip_south.l0, if_neg (by simp; omega)], fun c => ?_⟩
    rw [h c, List.take_of_length_le (by omega)]
  | d + 1, x, k, m0, e, hk, h => by
    obtain ⟨k, rfl⟩ : ∃ m, k = m + 1 := ⟨k - 1, by omega⟩
    have hlt : x < L.length := by omega
    have hwx : w64 ((x : Int) + 1) = ((x + 1 : Nat) : Int) := by rw [w64_id (by omega) (by omega)]; rfl
    have hj := hL L[x] (List.getElem_mem hlt)
    obtain ⟨m, e1, h1⟩ := cols_south_l0 s L hL hl d (x + 1) k (mput (rdD s L[x] z_Tile).S true m0) (by omega) (by omega) (fun c => by
      rw [mget_put, h c, List.take_succ_eq_append_getElem hlt, List.any_append]
      by_cases hc : c = (rdD s L[x] z_Tile).S
      · rw [if_pos hc]; simp [hc]
      · have hd : decide ((rdD s L[x] z_Tile).S = c) = false := decide_eq_false fun e => hc e.symm
        rw [if_neg hc, List.any_cons, List.any_nil, hd, Bool.or_false, Bool.or_false])
    refine ⟨m, ?_, h1⟩
    rw [strip_rest_colours_with_strip_south.l0, if_pos (by simpa using hlt), if_pos (by simp; omega)]
    simp only [rdD_get hlt]
    rw [if_pos hj, hwx]
    show (Option.bind (some (rdD s L[x] z_Tile).S) _) = _
    rw [Option.bind_some]
    exact e1
theorem cols_south (s : List Tile) (L : List Int) (hL : ∀ j ∈ L, 0 ≤ j ∧ j < (s.length : Int)) (hl : L.length ≤ 1000000) {k : Nat} (hk : L.length < k) : ∃ m, strip_rest_colours_with_strip_south k ⟨s, L⟩ = some m ∧ ∀ c, mget c false m = L.any fun j => decide ((rdD s j z_Tile).S = c) := by
  obtain ⟨m, e1, h1⟩ := cols_south_l0 s L hL hl L.length 0 k [] (by omega) hk (fun c => by simp [mget])
  have e1 : strip_rest_colours_with_strip_south.l0 k [] 0 ⟨s, L⟩ = some m := e1
  exact ⟨m, by unfold strip_rest_colours_with_strip_south; rw [e1]; rfl, h1⟩
theorem cols_west_l0 (s : List Tile) (L : List Int) (hL : ∀ j ∈ L, 0 ≤ j ∧ j < (s.length : Int)) (hl : L.length ≤ 1000000) : ∀ (d x k : Nat) (m0 : List (Int × Bool)), x + d = L.length → d < k → (∀ c, mget c false m0 = (L.take x).any fun j => decide ((rdD s j z_Tile).W = c)) →
    ∃ m, strip_rest_colours_with_strip_west.l0 k m0 x ⟨s, L⟩ = some m ∧ ∀ c, mget c false m = L.any fun j => decide ((rdD s j z_Tile).W = c)
  | 0, x, k, m0, e, hk, h => by
    obtain ⟨k, rfl⟩ : ∃ m, k = m + 1 := ⟨k - 1, by omega⟩
    refine ⟨m0, by rw [strip_rest_colours_with_strip_west.l0, if_neg (by simp; omega)], fun c => ?_⟩
    rw [h c, List.take_of_length_le (by omega)]
  | d + 1, x, k, m0, e, hk, h => by
    obtain ⟨k, rfl⟩ : ∃ m, k = m + 1 := ⟨k - 1, by omega⟩
    have hlt : x < L.length := by omega
    have hwx : w64 ((x : Int) + 1) = ((x + 1 : Nat) : Int) := by rw [w64_id (by omega) (by omega)]; rfl
    have hj := hL L[x] (List.getElem_mem hlt)
    obtain ⟨m, e1, h1⟩ := cols_west_l0 s L hL hl d (x + 1) k (mput (rdD s L[x] z_Tile).W true m0) (by omega) (by omega) (fun c => by
      rw [mget_put, h c, List.take_succ_eq_append_getElem hlt, List.any_append]
      by_cases hc : c = (rdD s L[x] z_Tile).W
      · rw [if_pos hc]; simp [hc]
      · have hd : decide ((rdD s L[x] z_Tile).W = c) = false := decide_eq_false fun e => hc e.symm
        rw [if_neg hc, List.any_cons, List.any_nil, hd, Bool.or_false, Bool.or_false])
    refine ⟨m, ?_, h1⟩
    rw [strip_rest_colours_with_strip_west.l0, if_pos (by simpa using hlt), if_pos (by simp; omega)]
    simp only [rdD_get hlt]
    rw [if_pos hj, hwx]
    show (Option.bind (some (rdD s L[x] z_Tile).W) _) = _
    rw [Option.bind_some]
    exact e1
theorem cols_west (s : List Tile) (L : List Int) (hL : ∀ j ∈ L, 0 ≤ j ∧ j < (s.length : Int)) (hl : L.length ≤ 1000000) {k : Nat} (hk : L.length < k) : ∃ m, strip_rest_colours_with_strip_west k ⟨s, L⟩ = some m ∧ ∀ c, mget c false m = L.any fun j => decide ((rdD s j z_Tile).W = c) := by
  obtain ⟨m, e1, h1⟩ := cols_west_l0 s L hL hl L.length 0 k [] (by omega) hk (fun c => by simp [mget])
  have e1 : strip_rest_colours_with_strip_west.l0 k [] 0 ⟨s, L⟩ = some m := e1
  exact ⟨m, by unfold strip_rest_colours_with_strip_west; rw [e1]; rfl, h1⟩
def stays (s : List Tile) (L : List Int) (i : Int) : Bool :=
  (((L.any fun j => decide ((rdD s j z_Tile).S = (rdD s i z_Tile).N)) && (L.any fun j => decide ((rdD s j z_Tile).W = (rdD s i z_Tile).E))) && (L.any fun j => decide ((rdD s j z_Tile).N = (rdD s i z_Tile).S))) && (L.any fun j => decide ((rdD s j z_Tile).E = (rdD s i z_Tile).W))
def thinL (s : List Tile) (L : List Int) : List Int := L.filter (stays s L)
theorem kept_l0 (s : List Tile) (L : List Int) (hL : ∀ j ∈ L, 0 ≤ j ∧ j < (s.length : Int)) (hl : L.length ≤ 1000000) (K : List Int) (ms mw mn me : List (Int × Bool)) (p : Int → Bool)
    (hp : ∀ i, ((((mget ((rdD s i z_Tile).N) false ms) && (mget ((rdD s i z_Tile).E) false mw)) && (mget ((rdD s i z_Tile).S) false mn)) && (mget ((rdD s i z_Tile).W) false me)) = p i) : ∀ (d x k : Nat) (acc : List Int), x + d = L.length → d < k → acc.length ≤ x →
    strip_kept_int_with_strip_rest_thin_1.l0 k acc x L ⟨s, K⟩ ms mw mn me = some (acc ++ (L.drop x).filter p)
  | 0, x, k, acc, e, hk, ha => by
    obtain ⟨k, rfl⟩ : ∃ m, k = m + 1 := ⟨k - 1, by omega⟩
    rw [strip_kept_int_with_strip_rest_thin_1.l0, if_neg (by simp; omega), List.drop_of_length_le (by omega)]; simp
  | d + 1, x, k, acc, e, hk, ha => by
    obtain ⟨k, rfl⟩ : ∃ m, k = m + 1 := ⟨k - 1, by omega⟩
    have hlt : x < L.length := by omega
    have hwx : w64 ((x : Int) + 1) = ((x + 1 : Nat) : Int) := by rw [w64_id (by omega) (by omega)]; rfl
    have hj := hL L[x] (List.getElem_mem hlt)
    have h1 : strip_rest_thin_1 L[x] ⟨s, K⟩ ms mw mn me = some (p L[x]) := by
      unfold strip_rest_thin_1
      rw [if_pos hj, hp]
    rw [strip_kept_int_with_strip_rest_thin_1.l0, if_pos (by simpa using hlt), if_pos (show 0 ≤ (x : Int) ∧ (x : Int) < (L.length : Int) by omega), rdD_get hlt, h1, Option.bind_some, hwx, List.drop_eq_getElem_cons hlt, List.filter_cons]
    cases hb : p L[x]
    · rw [if_neg (by simp), Option.bind_some, kept_l0 s L hL hl K ms mw mn me p hp d (x + 1) k acc (by omega) (by omega) (by omega), if_neg (by simp)]
    · rw [if_pos rfl, if_pos (by simp; omega), Option.bind_some, kept_l0 s L hL hl K ms mw mn me p hp d (x + 1) k _ (by omega) (by omega) (by simp; omega), if_pos rfl]
      simp
theorem thin_eq (s : List Tile) (L : List Int) (hL : ∀ j ∈ L, 0 ≤ j ∧ j < (s.length : Int)) (hl : L.length ≤ 1000000) {k : Nat} (hk : L.length < k) : strip_rest_thin k ⟨s, L⟩ = some (decide ((thinL s L).length < L.length), ⟨s, thinL s L⟩) := by
  obtain ⟨mn, e1, h1⟩ := cols_north s L hL hl hk
  obtain ⟨me, e2, h2⟩ := cols_east s L hL hl hk
  obtain ⟨ms, e3, h3⟩ := cols_south s L hL hl hk
  obtain ⟨mw, e4, h4⟩ := cols_west s L hL hl hk
  have hk0 := kept_l0 s L hL hl L ms mw mn me (stays s L) (fun i => by rw [h1, h2, h3, h4]; rfl) L.length 0 k [] (by omega) hk (by simp)
  have hk0 : strip_kept_int_with_strip_rest_thin_1.l0 k [] 0 L ⟨s, L⟩ ms mw mn me = _ := hk0
  unfold strip_rest_thin
  rw [e1, Option.bind_some, e2, Option.bind_some, e3, Option.bind_some, e4, Option.bind_some]
  unfold strip_kept_int_with_strip_rest_thin_1
  rw [hk0, Option.bind_some, Option.bind_some, List.drop_zero, List.nil_append]
  show some (decide (((thinL s L).length : Int) < (L.length : Int)), _) = _
  congr 2
  rw [Bool.eq_iff_iff]; simp
def coreI (s : List Tile) : Nat → List Int → List Int
  | 0, L => L
  | f + 1, L => if (thinL s L).length < L.length then coreI s f (thinL s L) else L
theorem thin_sub (s : List Tile) (L : List Int) : (thinL s L).Sublist L := List.filter_sublist
theorem thin_same {s : List Tile} {L : List Int} (h : ¬ (thinL s L).length < L.length) : thinL s L = L := (thin_sub s L).eq_of_length_le (by omega)
theorem core_l1 (s : List Tile) : ∀ (f k : Nat) (L : List Int), L.length ≤ f → f + L.length + 1 < k → L.length ≤ 1000000 → (∀ j ∈ L, 0 ≤ j ∧ j < (s.length : Int)) → strip_Core.l1 k L s = some (coreI s (f + 1) L)
  | f, k, L, hf, hk, hl, hL => by
    obtain ⟨k, rfl⟩ : ∃ m, k = m + 1 := ⟨k - 1, by omega⟩
    rw [strip_Core.l1, thin_eq s L hL hl (by omega), Option.bind_some, coreI]
    by_cases h : (thinL s L).length < L.length
    · obtain ⟨f, rfl⟩ : ∃ m, f = m + 1 := ⟨f - 1, by omega⟩
      rw [if_pos (by simpa using h), if_pos h]
      exact core_l1 s f k (thinL s L) (by omega) (by omega) (by omega) (fun j hj => hL j ((thin_sub s L).subset hj))
    · rw [if_neg (by simpa using h), if_neg h, thin_same h]
  termination_by f => f
theorem core_fix (s : List Tile) : ∀ (f : Nat) (L : List Int), L.length ≤ f → thinL s (coreI s (f + 1) L) = coreI s (f + 1) L ∧ (coreI s (f + 1) L).Sublist L
  | f, L, hf => by
    rw [coreI]
    by_cases h : (thinL s L).length < L.length
    · obtain ⟨f, rfl⟩ : ∃ m, f = m + 1 := ⟨f - 1, by omega⟩
      rw [if_pos h]
      obtain ⟨h1, h2⟩ := core_fix s f (thinL s L) (by omega)
      exact ⟨h1, h2.trans (thin_sub s L)⟩
    · rw [if_neg h]
      exact ⟨thin_same h, List.Sublist.refl _⟩
  termination_by f => f
theorem core_keep (s : List Tile) (T : List Int) (hT : ∀ i ∈ T, stays s T i = true) : ∀ (f : Nat) (L : List Int), (∀ i ∈ T, i ∈ L) → ∀ i ∈ T, i ∈ coreI s f L
  | 0, L, h, i, hi => h i hi
  | f + 1, L, h, i, hi => by
    rw [coreI]
    split
    · refine core_keep s T hT f _ (fun j hj => List.mem_filter.2 ⟨h j hj, ?_⟩) i hi
      have := hT j hj
      unfold stays at this ⊢
      simp only [Bool.and_eq_true, List.any_eq_true] at this ⊢
      obtain ⟨⟨⟨⟨a, ha, ha2⟩, ⟨b, hb, hb2⟩⟩, ⟨c, hc, hc2⟩⟩, ⟨d, hd, hd2⟩⟩ := this
      exact ⟨⟨⟨⟨a, h a ha, ha2⟩, ⟨b, h b hb, hb2⟩⟩, ⟨c, h c hc, hc2⟩⟩, ⟨d, h d hd, hd2⟩⟩
    · exact h i hi
def idxL (n : Nat) : List Int := (List.range n).map fun (i : Nat) => (i : Int)
theorem core_l0 (s : List Tile) (hl : s.length ≤ 1000000) : ∀ (d x k : Nat), x + d = s.length → d < k → strip_Core.l0 k (idxL x) x s = some (idxL s.length)
  | 0, x, k, e, hk => by
    obtain ⟨k, rfl⟩ : ∃ m, k = m + 1 := ⟨k - 1, by omega⟩
    rw [strip_Core.l0, if_neg (by simp; omega), show x = s.length by omega]
  | d + 1, x, k, e, hk => by
    obtain ⟨k, rfl⟩ : ∃ m, k = m + 1 := ⟨k - 1, by omega⟩
    have hwx : w64 ((x : Int) + 1) = ((x + 1 : Nat) : Int) := by rw [w64_id (by omega) (by omega)]; rfl
    rw [strip_Core.l0, if_pos (by simp; omega), if_pos (by simp [idxL]; omega), hwx]
    have : idxL x ++ [(x : Int)] = idxL (x + 1) := by simp [idxL, List.range_succ]
    rw [this]
    exact core_l0 s hl d (x + 1) k (by omega) (by omega)
def coreC (s : List Tile) : List Int := coreI s (s.length + 1) (idxL s.length)
theorem core_eq {s : List Tile} (hv : validT s = true) {k : Nat} (hk : 10000 < k) : strip_Core k s = some (coreC s, 0) := by
  have hl := valid_len hv
  have h0 := core_l0 s (by omega) s.length 0 k (by omega) (by omega)
  have h0 : strip_Core.l0 k [] 0 s = some (idxL s.length) := h0
  have hlen : (idxL s.length).length = s.length := by simp [idxL]
  have h1 := core_l1 s s.length k (idxL s.length) (by omega) (by omega) (by omega) (fun j hj => by
    unfold idxL at hj
    obtain ⟨i, hi, rfl⟩ := List.mem_map.1 hj
    have := List.mem_range.1 hi
    omega)
  unfold strip_Core
  rw [tile_valid s (by omega) (by omega), Option.bind_some, hv, if_neg (by decide), h0, Option.bind_some, h1]; rfl
end Gp
set_option linter.unusedVariables false
set_option linter.unusedSimpArgs false
namespace Gp
open Gw Gq
def partT (s : List Tile) (C : List Int) : List Tile := C.map fun i => rdD s i z_Tile
theorem part_l0 (s : List Tile) (C : List Int) (hC : ∀ j ∈ C, 0 ≤ j ∧ j < (s.length : Int)) (hl : C.length ≤ 1000000) : ∀ (d x k : Nat), x + d = C.length → d < k → law04_part.l0 k (partT s (C.take x)) x s C = some (.inr (partT s C))
  | 0, x, k, e, hk => by
    obtain ⟨k, rfl⟩ : ∃ m, k = m + 1 := ⟨k - 1, by omega⟩
    rw [law04_part.l0, if_neg (by simp; omega), List.take_of_length_le (by omega)]
  | d + 1, x, k, e, hk => by
    obtain ⟨k, rfl⟩ : ∃ m, k = m + 1 := ⟨k - 1, by omega⟩
    have hlt : x < C.length := by omega
    have hwx : w64 ((x : Int) + 1) = ((x + 1 : Nat) : Int) := by rw [w64_id (by omega) (by omega)]; rfl
    have hj := hC C[x] (List.getElem_mem hlt)
    rw [law04_part.l0, if_pos (by simpa using hlt), if_pos (by omega), rdD_get hlt, if_neg (by simp; omega), if_pos hj, if_pos (by simp [partT]; omega), hwx]
    have : partT s (C.take x) ++ [rdD s C[x] z_Tile] = partT s (C.take (x + 1)) := by
      unfold partT; rw [List.take_succ_eq_append_getElem hlt, List.map_append]; rfl
    rw [this]
    exact part_l0 s C hC hl d (x + 1) k (by omega) (by omega)
theorem part_eq (s : List Tile) (C : List Int) (hC : ∀ j ∈ C, 0 ≤ j ∧ j < (s.length : Int)) (hl : C.length ≤ 1000000) {k : Nat} (hk : C.length < k) : law04_part k s C = some (partT s C, true) := by
  have h := part_l0 s C hC hl C.length 0 k (by omega) hk
  have h : law04_part.l0 k [] 0 s C = _ := h
  unfold law04_part; rw [h]; rfl
theorem part_idx (s : List Tile) : partT s (idxL s.length) = s := by
  apply List.ext_getElem (by simp [partT, idxL])
  intro i h1 h2
  simp only [partT, idxL, List.getElem_map, List.getElem_range]
  exact rdD_get h2 _
theorem part_sub {s : List Tile} {C : List Int} (h : C.Sublist (idxL s.length)) : (partT s C).Sublist s := by
  have := h.map (fun i => rdD s i z_Tile)
  rwa [show (idxL s.length).map (fun i => rdD s i z_Tile) = s from part_idx s] at this
theorem idx_rng {n : Nat} {j : Int} (h : j ∈ idxL n) : 0 ≤ j ∧ j < (n : Int) := by
  unfold idxL at h
  obtain ⟨i, hi, rfl⟩ := List.mem_map.1 h
  have := List.mem_range.1 hi
  omega
theorem coreC_sub (s : List Tile) : (coreC s).Sublist (idxL s.length) := (core_fix s s.length (idxL s.length) (by simp [idxL])).2
theorem coreC_fix (s : List Tile) : thinL s (coreC s) = coreC s := (core_fix s s.length (idxL s.length) (by simp [idxL])).1
theorem sub_valid4 {a s : List Tile} (h : a.Sublist s) (hv : validT s = true) : validT a = true := by
  rw [validT_iff4] at hv ⊢
  exact ⟨Nat.le_trans h.length_le hv.1, h.nodup hv.2.1, fun t ht => hv.2.2 t (h.subset ht)⟩
theorem core_nb {s : List Tile} {t : Tile} (ht : t ∈ partT s (coreC s)) : ((∃ u ∈ partT s (coreC s), u.S = t.N) ∧ (∃ u ∈ partT s (coreC s), u.W = t.E)) ∧ (∃ u ∈ partT s (coreC s), u.N = t.S) ∧ ∃ u ∈ partT s (coreC s), u.E = t.W := by
  unfold partT at ht
  obtain ⟨i, hi, rfl⟩ := List.mem_map.1 ht
  have hf := coreC_fix s
  have h1 : i ∈ thinL s (coreC s) := by rw [hf]; exact hi
  have h2 := (List.mem_filter.1 h1).2
  unfold stays at h2
  simp only [Bool.and_eq_true, List.any_eq_true, decide_eq_true_eq] at h2
  obtain ⟨⟨⟨⟨a, ha, ha2⟩, ⟨b, hb, hb2⟩⟩, ⟨c, hc, hc2⟩⟩, ⟨d, hd, hd2⟩⟩ := h2
  have m : ∀ j ∈ coreC s, rdD s j z_Tile ∈ partT s (coreC s) := fun j hj => List.mem_map.2 ⟨j, hj, rfl⟩
  exact ⟨⟨⟨_, m a ha, ha2⟩, ⟨_, m b hb, hb2⟩⟩, ⟨_, m c hc, hc2⟩, ⟨_, m d hd, hd2⟩⟩
theorem core_all {t : List Tile} (h : ∀ u ∈ t, ((∃ v ∈ t, v.S = u.N) ∧ (∃ v ∈ t, v.W = u.E)) ∧ (∃ v ∈ t, v.N = u.S) ∧ ∃ v ∈ t, v.E = u.W) : coreC t = idxL t.length := by
  have hst : ∀ i ∈ idxL t.length, stays t (idxL t.length) i = true := fun i hi => by
    have hr := idx_rng hi
    obtain ⟨n, rfl⟩ : ∃ n : Nat, i = n := ⟨i.toNat, by omega⟩
    have hn : n < t.length := by omega
    have key : ∀ v ∈ t, ∃ j ∈ idxL t.length, rdD t j z_Tile = v := fun v hv => by
      obtain ⟨j, hj, rfl⟩ := List.getElem_of_mem hv
      exact ⟨(j : Int), List.mem_map.2 ⟨j, List.mem_range.2 hj, rfl⟩, rdD_get hj _⟩
    obtain ⟨⟨⟨a, ha, ha2⟩, ⟨b, hb, hb2⟩⟩, ⟨c, hc, hc2⟩, ⟨d, hd, hd2⟩⟩ := h t[n] (List.getElem_mem hn)
    obtain ⟨ja, hja, ea⟩ := key a ha
    obtain ⟨jb, hjb, eb⟩ := key b hb
    obtain ⟨jc, hjc, ec⟩ := key c hc
    obtain ⟨jd, hjd, ed⟩ := key d hd
    unfold stays
    rw [rdD_get hn]
    simp only [Bool.and_eq_true, List.any_eq_true, decide_eq_true_eq]
    exact ⟨⟨⟨⟨ja, hja, by rw [ea, ha2]⟩, ⟨jb, hjb, by rw [eb, hb2]⟩⟩, ⟨jc, hjc, by rw [ec, hc2]⟩⟩, ⟨jd, hjd, by rw [ed, hd2]⟩⟩
  have ht : thinL t (idxL t.length) = idxL t.length := List.filter_eq_self.2 hst
  unfold coreC
  rw [coreI, ht, if_neg (by omega)]
end Gp
set_option linter.unusedVariables false
set_option linter.unusedSimpArgs false
namespace Gp
open Gw Gq
theorem pred_mod {x W : Nat} (h : x < W) : (x + W - 1) % W < W ∧ ((x + W - 1) % W + 1) % W = x := by
  refine ⟨Nat.mod_lt _ (by omega), ?_⟩
  rcases Nat.eq_zero_or_pos x with h0 | h0
  · subst h0
    rw [Nat.zero_add, Nat.mod_eq_of_lt (show W - 1 < W by omega), show W - 1 + 1 = W by omega, Nat.mod_self]
  · rw [show x + W - 1 = x - 1 + W by omega, Nat.add_mod_right, Nat.mod_eq_of_lt (show x - 1 < W by omega), show x - 1 + 1 = x by omega, Nat.mod_eq_of_lt h]
theorem pos_div {y x W : Nat} (hx : x < W) : (y * W + x) / W = y ∧ (y * W + x) % W = x := by
  refine ⟨?_, ?_⟩
  · rw [Nat.mul_comm, Nat.mul_add_div (by omega), Nat.div_eq_of_lt hx]; omega
  · rw [Nat.mul_comm, Nat.mul_add_mod, Nat.mod_eq_of_lt hx]
theorem pos_lt {y x W H : Nat} (hx : x < W) (hy : y < H) : y * W + x < H * W := by
  have : (y + 1) * W ≤ H * W := Nat.mul_le_mul_right W hy
  rw [Nat.add_mul, Nat.one_mul] at this
  omega
theorem torus_stays {s : List Tile} {p : Pattern} {W H : Nat} (f : PForm s p W H) (hj : ((List.range (H * W)).all fun i => rightB s p W H true i && upB s p W H true i) = true) : ∀ c ∈ p.Cells, stays s p.Cells c = true := by
  have hW := f.dW; have hH := f.dH; have hlen := f.len
  simp only [List.all_eq_true, List.mem_range, Bool.and_eq_true] at hj
  have mem : ∀ i, i < H * W → p.Cells.getD i 0 ∈ p.Cells := fun i hi => by
    rw [List.getD_eq_getElem?_getD, List.getElem?_eq_getElem (by omega)]; exact List.getElem_mem _
  have r : ∀ y x, y < H → x < W → (tl s p (y * W + x)).E = (tl s p (y * W + (x + 1) % W)).W := fun y x hy hx => by
    have := (hj _ (pos_lt hx hy)).1
    unfold rightB at this
    rw [(pos_div hx).1, (pos_div hx).2] at this
    simpa using this
  have u : ∀ y x, y < H → x < W → (tl s p (y * W + x)).N = (tl s p ((y + 1) % H * W + x)).S := fun y x hy hx => by
    have := (hj _ (pos_lt hx hy)).2
    unfold upB at this
    rw [(pos_div hx).1, (pos_div hx).2] at this
    simpa using this
  intro c hc
  obtain ⟨i, hi, rfl⟩ := List.getElem_of_mem hc
  obtain ⟨y, x, hy, hx, rfl⟩ : ∃ y x, y < H ∧ x < W ∧ i = y * W + x := ⟨i / W, i % W, Nat.div_lt_of_lt_mul (by rw [Nat.mul_comm]; omega), Nat.mod_lt _ (by omega), by rw [Nat.mul_comm]; exact (Nat.div_add_mod i W).symm⟩
  have ht : ∀ j, rdD s (p.Cells.getD j 0) z_Tile = tl s p j := fun j => rfl
  have hg : p.Cells[y * W + x] = p.Cells.getD (y * W + x) 0 := by rw [List.getD_eq_getElem?_getD, List.getElem?_eq_getElem hi]; rfl
  obtain ⟨px, px2⟩ := pred_mod hx
  obtain ⟨py, py2⟩ := pred_mod hy
  have hx1 : (x + 1) % W < W := Nat.mod_lt _ (by omega)
  have hy1 : (y + 1) % H < H := Nat.mod_lt _ (by omega)
  have rw1 := r y _ hy px
  have uw1 := u _ x py hx
  rw [px2] at rw1
  rw [py2] at uw1
  unfold stays
  rw [hg, ht]
  simp only [Bool.and_eq_true, List.any_eq_true, decide_eq_true_eq]
  exact ⟨⟨⟨⟨_, mem _ (pos_lt hx hy1), by rw [ht]; exact (u y x hy hx).symm⟩, ⟨_, mem _ (pos_lt hx1 hy), by rw [ht]; exact (r y x hy hx).symm⟩⟩, ⟨_, mem _ (pos_lt hx py), by rw [ht]; exact uw1⟩⟩, ⟨_, mem _ (pos_lt px hy), by rw [ht]; exact rw1⟩⟩
theorem rep_core {s : List Tile} (hv : validT s = true) (p : Pattern) {k : Nat} (hk : 40001 ≤ k) : ∃ b, tile_Repeats k s p = some b ∧ (b = true → ∀ c ∈ p.Cells, (0 ≤ c ∧ c < (s.length : Int)) ∧ c ∈ coreC s) := by
  have hl := valid_len hv
  cases ho : ofB s p
  · refine ⟨false, ?_, fun h => by cases h⟩
    unfold tile_Repeats
    rw [of_eq s p hk (by omega), ho]; rfl
  · obtain ⟨_, W, H, f⟩ := ofB_iff ho
    refine ⟨_, repeats_eq f hv (by omega) hk, fun hj => ?_⟩
    have hr : ∀ c ∈ p.Cells, 0 ≤ c ∧ c < (s.length : Int) := fun c hc => by
      obtain ⟨i, hi, rfl⟩ := List.getElem_of_mem hc
      have := f.cel i (by rw [← f.len]; exact hi)
      rwa [List.getD_eq_getElem?_getD, List.getElem?_eq_getElem hi] at this
    have hst := torus_stays f hj
    refine fun c hc => ⟨hr c hc, core_keep s p.Cells hst _ _ (fun i hi => ?_) c hc⟩
    have := hr i hi
    exact List.mem_map.2 ⟨i.toNat, List.mem_range.2 (by omega), by omega⟩
end Gp
set_option linter.unusedVariables false
set_option linter.unusedSimpArgs false
namespace Gp
open Gw Gq
theorem leads_f (x y : Tile) : ref04_Leads x y false = some (x.E == y.W) := rfl
theorem leads_t (x y : Tile) : ref04_Leads x y true = some (x.N == y.S) := rfl
theorem core_l1flags {t : List Tile} (ht : t.length ≤ 1000) (o : Bool) {i : Nat} (hi : i < t.length) : ∀ (d x k : Nat) (b0 b1 b2 b3 : Bool), x + d = t.length → d < k →
    law04_StripCore.l1 k b0 b1 b2 b3 x (t, o) i = some (b0 || (t.drop x).any (fun u => t[i].E == u.W), b1 || (t.drop x).any (fun u => u.E == t[i].W), b2 || (t.drop x).any (fun u => t[i].N == u.S), b3 || (t.drop x).any (fun u => u.N == t[i].S))
  | 0, x, k, b0, b1, b2, b3, e, hk => by
    obtain ⟨k, rfl⟩ : ∃ m, k = m + 1 := ⟨k - 1, by omega⟩
    rw [law04_StripCore.l1, if_neg (by simp; omega), List.drop_of_length_le (by omega)]; simp
  | d + 1, x, k, b0, b1, b2, b3, e, hk => by
    obtain ⟨k, rfl⟩ : ∃ m, k = m + 1 := ⟨k - 1, by omega⟩
    have hlt : x < t.length := by omega
    have hwx : w64 ((x : Int) + 1) = ((x + 1 : Nat) : Int) := by rw [w64_id (by omega) (by omega)]; rfl
    have c1 : 0 ≤ (x : Int) ∧ (x : Int) < (t.length : Int) := by omega
    have c2 : 0 ≤ (i : Int) ∧ (i : Int) < (t.length : Int) := by omega
    rw [law04_StripCore.l1, if_pos (by simpa using hlt), hwx, List.drop_eq_getElem_cons hlt]
    simp only [if_pos c1, if_pos c2, rdD_get hlt, rdD_get hi, leads_f, leads_t, Option.bind_some, List.any_cons]
    have e1 : (if b0 = true then (if b1 = true then some (true, true) else some (true, t[x].E == t[i].W)) else (if b1 = true then some (t[i].E == t[x].W, true) else some (t[i].E == t[x].W, t[x].E == t[i].W))) = some (b0 || (t[i].E == t[x].W), b1 || (t[x].E == t[i].W)) := by
      cases b0 <;> cases b1 <;> rfl
    have e2 : (if b2 = true then (if b3 = true then some (true, true) else some (true, t[x].N == t[i].S)) else (if b3 = true then some (t[i].N == t[x].S, true) else some (t[i].N == t[x].S, t[x].N == t[i].S))) = some (b2 || (t[i].N == t[x].S), b3 || (t[x].N == t[i].S)) := by
      cases b2 <;> cases b3 <;> rfl
    rw [e1, Option.bind_some, e2, Option.bind_some, core_l1flags ht o hi d (x + 1) k _ _ _ _ (by omega) (by omega)]
    simp only [Bool.or_assoc]
theorem core_l0flags {t : List Tile} (ht : t.length ≤ 1000) (o : Bool) (h : ∀ u ∈ t, ((∃ v ∈ t, v.S = u.N) ∧ (∃ v ∈ t, v.W = u.E)) ∧ (∃ v ∈ t, v.N = u.S) ∧ ∃ v ∈ t, v.E = u.W) : ∀ (d x k : Nat), x + d = t.length → d + 1002 < k → law04_StripCore.l0 k x (t, o) = some (.inr ())
  | 0, x, k, e, hk => by
    obtain ⟨k, rfl⟩ : ∃ m, k = m + 1 := ⟨k - 1, by omega⟩
    rw [law04_StripCore.l0, if_neg (by simp; omega)]
  | d + 1, x, k, e, hk => by
    obtain ⟨k, rfl⟩ : ∃ m, k = m + 1 := ⟨k - 1, by omega⟩
    have hlt : x < t.length := by omega
    have hwx : w64 ((x : Int) + 1) = ((x + 1 : Nat) : Int) := by rw [w64_id (by omega) (by omega)]; rfl
    have l1 := core_l1flags ht o hlt t.length 0 k false false false false (by omega) (by omega)
    have l1 : law04_StripCore.l1 k false false false false 0 (t, o) x = _ := l1
    obtain ⟨⟨⟨a, ha, ha2⟩, ⟨b, hb, hb2⟩⟩, ⟨c, hc, hc2⟩, ⟨e', he, he2⟩⟩ := h t[x] (List.getElem_mem hlt)
    have f1 : t.any (fun u => t[x].E == u.W) = true := List.any_eq_true.2 ⟨b, hb, by simp [hb2]⟩
    have f2 : t.any (fun u => u.E == t[x].W) = true := List.any_eq_true.2 ⟨e', he, by simp [he2]⟩
    have f3 : t.any (fun u => t[x].N == u.S) = true := List.any_eq_true.2 ⟨a, ha, by simp [ha2]⟩
    have f4 : t.any (fun u => u.N == t[x].S) = true := List.any_eq_true.2 ⟨c, hc, by simp [hc2]⟩
    rw [law04_StripCore.l0, if_pos (by simpa using hlt), l1, Option.bind_some, hwx, List.drop_zero, f1, f2, f3, f4, if_neg (by simp)]
    exact core_l0flags ht o h d (x + 1) k (by omega) (by omega)
theorem core_l2cells {s t : List Tile} (ht : t.length ≤ 1000) (o : Bool) {p : Pattern} (hp : p.Cells.length ≤ 40000) (h : ∀ c ∈ p.Cells, (0 ≤ c ∧ c < (s.length : Int)) ∧ rdD s c z_Tile ∈ t) : ∀ (d x k : Nat), x + d = p.Cells.length → d + 1002 < k → law04_StripCore.l2 k x s p (t, o) = some (.inr ())
  | 0, x, k, e, hk => by
    obtain ⟨k, rfl⟩ : ∃ m, k = m + 1 := ⟨k - 1, by omega⟩
    rw [law04_StripCore.l2, if_neg (by simp; omega)]
  | d + 1, x, k, e, hk => by
    obtain ⟨k, rfl⟩ : ∃ m, k = m + 1 := ⟨k - 1, by omega⟩
    have hlt : x < p.Cells.length := by omega
    have hwx : w64 ((x : Int) + 1) = ((x + 1 : Nat) : Int) := by rw [w64_id (by omega) (by omega)]; rfl
    obtain ⟨h1, h2⟩ := h p.Cells[x] (List.getElem_mem hlt)
    obtain ⟨r, hr, hr2⟩ := index01 (set := t) (by omega) (rdD s p.Cells[x] z_Tile) (k := k) (by omega)
    rw [decide_eq_true h2] at hr2
    have hr3 := of_decide_eq_true hr2
    rw [law04_StripCore.l2, if_pos (by simpa using hlt), if_pos (by omega), rdD_get hlt, if_pos h1, hr, Option.bind_some, hwx, if_neg (by simp; omega)]
    exact core_l2cells ht o hp h d (x + 1) k (by omega) (by omega)
theorem law04_StripCore_pure : ∀ (p0 : List Tile) (p1 : Pattern), ((∀ x ∈ p0, ok_Tile x) ∧ p0.length ≤ Go.maxLen) → (ok_Pattern p1) → ∃ k, law04_StripCore k p0 p1 = some true := by
  intro s p hs _
  have hl : s.length ≤ 9223372036854775807 := hs.2
  refine ⟨2000000, ?_⟩
  have aw : law04_awake 2000000 = some true := awake04_ok 1998700
  unfold law04_StripCore
  by_cases h60 : s.length ≤ 60
  rotate_left
  · rw [if_pos (decide_eq_true (by omega)), Option.bind_some, if_pos (by simp), aw]; rfl
  rw [if_neg (by simp; omega), valid01 s (by omega) hl, Option.bind_some, Option.bind_some]
  cases hv : validT s
  · rw [if_pos (by simp), aw]; rfl
  by_cases hc : (p.Cells.length : Int) > 40000
  · rw [if_pos (by simp; omega), aw]; rfl
  rw [if_neg (by simp; omega), core_eq hv (by omega), Option.bind_some]
  have hsub := coreC_sub s
  have hcl : (coreC s).length ≤ s.length := by have := hsub.length_le; simpa [idxL] using this
  have hrng : ∀ j ∈ coreC s, 0 ≤ j ∧ j < (s.length : Int) := fun j hj => idx_rng (hsub.subset hj)
  have hps := part_sub hsub
  have hpv := sub_valid4 hps hv
  have hpl := valid_len hpv
  have hnb := fun t ht => core_nb (s := s) (t := t) ht
  have hca := core_all (t := partT s (coreC s)) hnb
  have hil : (idxL (partT s (coreC s)).length).length = (partT s (coreC s)).length := by simp [idxL]
  obtain ⟨b, hR, hR2⟩ := rep_core hv p (k := 2000000) (by omega)
  have l0 := core_l0flags hpl true hnb (partT s (coreC s)).length 0 2000000 (by omega) (by omega)
  have l0 : law04_StripCore.l0 2000000 0 (partT s (coreC s), true) = _ := l0
  rw [part_eq s (coreC s) hrng (by omega) (by omega), Option.bind_some, if_neg (by simp), valid01 (partT s (coreC s)) (by omega) (by omega), hpv, Option.bind_some, Option.bind_some, if_neg (by simp), core_eq hpv (by omega), Option.bind_some, hca, if_neg (by simp [hil]), l0, Option.bind_some]
  show (tile_Repeats 2000000 s p).bind _ = _
  rw [hR, Option.bind_some]
  cases b
  · rw [if_pos (by decide), aw]; rfl
  · have l2 := core_l2cells (s := s) hpl true (p := p) (by omega) (fun c hc => ⟨(hR2 rfl c hc).1, List.mem_map.2 ⟨c, (hR2 rfl c hc).2, rfl⟩⟩) p.Cells.length 0 2000000 (by omega) (by omega)
    have l2 : law04_StripCore.l2 2000000 0 s p (partT s (coreC s), true) = _ := l2
    rw [if_neg (by decide), l2, Option.bind_some]
    show (law04_awake 2000000).bind _ = _
    rw [aw]; rfl
end Gp
