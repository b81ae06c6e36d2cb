/- The plain law: what the functions compute answers as the statement says. -/
import Derived.Test.YtpbnoldflfcllaaGp
import Derived.KernelRfl
set_option linter.unusedVariables false
set_option linter.unusedSimpArgs false
namespace Gq
open Go Gw Gp
/-! ### numbers and lists -/
theorem w64_id {n : Int} (h0 : -9223372036854775808 ≤ n) (h1 : n ≤ 9223372036854775807) : w64 n = n := by
  show IntKind.i64.wrap n = n
  have e : IntKind.i64.wrap n = if (true && decide (n % 18446744073709551616 ≥ 9223372036854775808)) = true then n % 18446744073709551616 - 18446744073709551616 else n % 18446744073709551616 := rfl
  rw [e]
  simp only [Bool.true_and, decide_eq_true_eq]
  split <;> omega
theorem rdD_nat {α : Type} (xs : List α) (i : Nat) (d : α) : rdD xs (i : Int) d = xs.getD i d := by simp [rdD]
theorem rdD_get {α : Type} {xs : List α} {i : Nat} (h : i < xs.length) (d : α) : rdD xs (i : Int) d = xs[i] := by
  simp [rdD, List.getD, List.getElem?_eq_getElem h]
def firstS {α β : Type} (g : Nat → α → Option β) : Nat → List α → Option β
  | _, [] => none
  | i, a :: r => match g i a with
    | some b => some b
    | none => firstS g (i + 1) r
def fin {β : Type} : Option β → Sum β Unit
  | some b => .inl b
  | none => .inr ()
theorem scan {α β : Type} {F : Nat → Int → Option (Sum β Unit)} {xs : List α} {g : Nat → α → Option β}
    (hF : ∀ k (i : Nat), i ≤ xs.length → F (k + 1) (i : Int) = if h : i < xs.length then (match g i xs[i] with | some b => some (.inl b) | none => F k ((i + 1 : Nat) : Int)) else some (.inr ())) :
    ∀ (n k i : Nat), i + n = xs.length → n < k → F k (i : Int) = some (fin (firstS g i (xs.drop i)))
  | 0, k, i, hi, hk => by
    obtain ⟨k, rfl⟩ : ∃ m, k = m + 1 := ⟨k - 1, by omega⟩
    have hi : i = xs.length := by omega
    subst hi
    rw [hF k _ (Nat.le_refl _), dif_neg (Nat.lt_irrefl _), List.drop_length]; rfl
  | n + 1, k, i, hi, hk => by
    obtain ⟨k, rfl⟩ : ∃ m, k = m + 1 := ⟨k - 1, by omega⟩
    have hlt : i < xs.length := by omega
    rw [hF k i (by omega), dif_pos hlt, List.drop_eq_getElem_cons hlt, firstS]
    cases hg : g i xs[i] with
    | some b => rfl
    | none => exact scan hF n k (i + 1) (by omega) (by omega)
end Gq
set_option linter.unusedVariables false
set_option linter.unusedSimpArgs false
namespace Gq
theorem flat_succ {α : Type} (f : Nat → List α) (n : Nat) : (List.range (n + 1)).flatMap f = (List.range n).flatMap f ++ f n := by
  rw [List.range_succ, List.flatMap_append]; simp
theorem map_succ {α : Type} (f : Nat → α) (n : Nat) : (List.range (n + 1)).map f = (List.range n).map f ++ [f n] := by
  rw [List.range_succ, List.map_append]; simp
end Gq
namespace Gp
open Gw Gq
/-! ### the tiles of a machine -/
def hd (Y q s : Nat) : Int := ((Y + q * Y + s : Nat) : Int)
end Gp
set_option linter.unusedVariables false
set_option linter.unusedSimpArgs false
namespace Gq
theorem flat_get {α : Type} {f : Nat → List α} : ∀ {n q j : Nat} {t : α}, q < n → (f q)[j]? = some t → ((List.range n).flatMap f)[((List.range q).flatMap f).length + j]? = some t
  | 0, q, j, t, h, _ => by omega
  | n + 1, q, j, t, h, hj => by
    rw [flat_succ, List.getElem?_append]
    by_cases hq : q < n
    · have := flat_get (n := n) hq hj
      rw [if_pos (by by_cases hl : ((List.range q).flatMap f).length + j < ((List.range n).flatMap f).length
                     · exact hl
                     · rw [List.getElem?_eq_none (by omega)] at this; cases this)]
      exact this
    · have : q = n := by omega
      subst this
      rw [if_neg (by omega), show ((List.range q).flatMap f).length + j - ((List.range q).flatMap f).length = j by omega]; exact hj
theorem flat_len {α : Type} {f : Nat → List α} {b : Nat} (hf : ∀ i, (f i).length = b) : ∀ n, ((List.range n).flatMap f).length = n * b
  | 0 => by simp
  | n + 1 => by
    rw [flat_succ, List.length_append, Nat.add_mul, Nat.one_mul, flat_len hf n, hf n]
end Gq
namespace Gp
open Gw Gq
/-! ### where the tiles of a machine lie -/
end Gp
set_option linter.unusedVariables false
set_option linter.unusedSimpArgs false
namespace Gp
open Gw Gq
/-! ### the tile that shows a cell of a step -/
end Gp
set_option linter.unusedVariables false
set_option linter.unusedSimpArgs false
namespace Gq
theorem loop_all {σ ρ τ : Type} {F : Nat → Int → σ → Option (Sum ρ τ)} {S : Nat → σ} {b : Nat → Bool} {n K : Nat} {r : ρ} {e : τ} (hs : ∀ k i, K ≤ k → i < n → F (k + 1) (i : Int) (S i) = if b i = true then F k ((i + 1 : Nat) : Int) (S (i + 1)) else some (.inl r)) (he : ∀ k, F (k + 1) (n : Int) (S n) = some (.inr e)) :
    ∀ k, n + K < k → F k 0 (S 0) = some (if (List.range n).all b = true then .inr e else .inl r) := by
  have key : ∀ d i k, i + d = n → d + K < k → F k (i : Int) (S i) = some (if (List.range' i d).all b = true then .inr e else .inl r) := by
    intro d
    induction d with
    | zero =>
      intro i k hi hk
      obtain ⟨k, rfl⟩ : ∃ m, k = m + 1 := ⟨k - 1, by omega⟩
      have : i = n := by omega
      subst this; rw [he]; rfl
    | succ d ih =>
      intro i k hi hk
      obtain ⟨k, rfl⟩ : ∃ m, k = m + 1 := ⟨k - 1, by omega⟩
      rw [hs k i (by omega) (by omega), List.range'_succ, List.all_cons]
      cases hb : b i
      · rfl
      · rw [if_pos rfl, ih (i + 1) k (by omega) (by omega)]; rfl
  intro k hk
  rw [List.range_eq_range']
  exact key n 0 k (by omega) hk
theorem firstS_ge' {α : Type} {p : α → Bool} : ∀ (xs : List α) (i : Nat), (match firstS (fun i a => if p a = true then none else some (i : Int)) i xs with
    | some x => decide (0 ≤ x)
    | none => false) = !xs.all p
  | [], i => rfl
  | a :: r, i => by
    rw [firstS]
    cases h : p a
    · simp [h]
    · simp only [if_true, List.all_cons, h, Bool.true_and]
      exact firstS_ge' r (i + 1)
end Gq
namespace Gp
open Gw Gq
/-! ### sets of tiles and patterns -/
def inCol (c : Int) : Bool := decide (0 ≤ c ∧ c < 1000)
def colB (t : Tile) : Bool := inCol t.N && inCol t.E && inCol t.S && inCol t.W
theorem idx_col (xs : List Int) (hl : xs.length ≤ 1000000) (k : Nat) (hk : xs.length < k) :
    slices_IndexFunc_int_int_with_tile_colour_1.l0 k 0 xs = some (fin (firstS (fun i a => if inCol a = true then none else some (i : Int)) 0 xs)) := by
  have := scan (F := fun k i => slices_IndexFunc_int_int_with_tile_colour_1.l0 k i xs) (xs := xs) (g := fun i a => if inCol a = true then none else some (i : Int)) (fun k i hi => by
    show slices_IndexFunc_int_int_with_tile_colour_1.l0 (k + 1) i xs = _
    rw [slices_IndexFunc_int_int_with_tile_colour_1.l0]
    by_cases h : i < xs.length
    · have h' : (i : Int) < (xs.length : Int) := by omega
      have h2 : 0 ≤ (i : Int) ∧ (i : Int) < (xs.length : Int) := by omega
      rw [dif_pos h, if_pos (by simpa using h'), if_pos h2, rdD_get h, tile_colour_1, w64_id (by omega) (by omega)]
      by_cases hb : 0 ≤ xs[i] ∧ xs[i] < 1000
      · have h3 : ¬ (xs[i] < 0 ∨ 1000 ≤ xs[i]) := by omega
        simp [inCol, hb]
        intro hh; exact absurd hh h3
      · have h3 : (xs[i] < 0 ∨ 1000 ≤ xs[i]) := by omega
        simp [inCol, hb, h3]
    · have h' : ¬ (i : Int) < (xs.length : Int) := by omega
      rw [dif_neg h, if_neg (by simpa using h')]) xs.length k 0 (by simp) hk
  simpa using this
theorem colour_eq (xs : List Int) (hl : xs.length ≤ 1000000) (k : Nat) (hk : xs.length < k) : tile_colour k xs = some (xs.all inCol) := by
  unfold tile_colour slices_ContainsFunc_int_int_with_tile_colour_1 slices_IndexFunc_int_int_with_tile_colour_1
  rw [idx_col xs hl k hk]
  have := firstS_ge' (p := inCol) xs 0
  cases hf : firstS (fun i a => if inCol a = true then none else some (i : Int)) 0 xs <;> rw [hf] at this <;> cases ha : xs.all inCol <;> rw [ha] at this <;> simp [fin, sumb] at this ⊢
  · exact this
  · exact this
def metS (set : List Tile) (i : Nat) : List (Tile × Bool) := (set.take i).map fun t => (t, true)
theorem mget_met (t : Tile) : ∀ l : List Tile, mget t false (l.map fun t => (t, true)) = decide (t ∈ l)
  | [] => rfl
  | a :: r => by
    simp only [List.map_cons, mget]
    by_cases h : t = a
    · simp [h]
    · rw [if_neg h, mget_met t r]; simp [h]
theorem mput_met (t : Tile) : ∀ l : List Tile, t ∉ l → mput t true (l.map fun t => (t, true)) = (l.map fun t => (t, true)) ++ [(t, true)]
  | [], _ => rfl
  | a :: r, h => by
    simp only [List.mem_cons, not_or] at h
    simp only [List.map_cons, mput, if_neg h.1, mput_met t r h.2, List.cons_append]
def newB (set : List Tile) (i : Nat) : Bool := !decide (set.getD i z_Tile ∈ set.take i) && colB (set.getD i z_Tile)
def validT (set : List Tile) : Bool := decide (set.length ≤ 1000) && (List.range set.length).all (newB set)
theorem tile_valid (set : List Tile) {k : Nat} (hk : 1006 ≤ k) (hl : set.length ≤ 9223372036854775807) : tile_Valid k set = some (validT set) := by
  unfold tile_Valid validT
  by_cases hb : set.length ≤ 1000
  · rw [if_neg (by simp; omega)]
    have := loop_all (F := fun k i (m : List (Tile × Bool)) => tile_Valid.l0 k m i set) (S := metS set) (b := newB set) (n := set.length) (K := 5) (r := false) (e := ()) (fun k i hk hi => by
      show tile_Valid.l0 (k + 1) (metS set i) i set = if newB set i = true then tile_Valid.l0 k (metS set (i + 1)) ((i + 1 : Nat) : Int) set else _
      rw [tile_Valid.l0, if_pos (by simpa using hi), if_pos (by omega), rdD_nat, metS, mget_met]
      have ht : set.getD i z_Tile = set[i] := by simp [List.getElem?_eq_getElem hi]
      unfold newB
      by_cases hm : set.getD i z_Tile ∈ set.take i
      · rw [if_pos (by simpa using hm), show decide (set.getD i z_Tile ∈ set.take i) = true from decide_eq_true hm]; rfl
      · rw [if_neg (by simpa using hm), colour_eq _ (by simp) k (by simp; omega), Option.bind_some, Option.bind_some]
        have hc : ([(set.getD i z_Tile).N, (set.getD i z_Tile).E, (set.getD i z_Tile).S, (set.getD i z_Tile).W].all inCol) = colB (set.getD i z_Tile) := by simp [colB, Bool.and_assoc]
        rw [hc]
        cases hcb : colB (set.getD i z_Tile)
        · simp
        · rw [mput_met _ _ hm, w64_id (by omega) (by omega)]
          simp only [hm, Bool.not_true, Bool.false_eq_true, if_false, decide_false, Bool.not_false, Bool.and_self, if_true]
          unfold metS
          rw [List.take_add_one, List.map_append, List.getElem?_eq_getElem hi, ht]; rfl) (fun k => by
      show tile_Valid.l0 (k + 1) (metS set set.length) set.length set = _
      rw [tile_Valid.l0, if_neg (by simp)]) k (by omega)
    have h0 : tile_Valid.l0 k [] 0 set = some (if (List.range set.length).all (newB set) = true then .inr () else .inl false) := this
    rw [h0]
    cases (List.range set.length).all (newB set) <;> simp [sumb, hb]
  · rw [if_pos (by simp; omega)]; simp [hb]
def formB (p : Pattern) : Bool := decide (1 ≤ p.Width ∧ 1 ≤ p.Height ∧ p.Width ≤ 40000 ∧ p.Height ≤ 40000 ∧ p.Width * p.Height ≤ 40000 ∧ (p.Cells.length : Int) = p.Width * p.Height)
def inSet (n : Nat) (c : Int) : Bool := decide (0 ≤ c ∧ c < (n : Int))
def ofB (set : List Tile) (p : Pattern) : Bool := validT set && formB p && p.Cells.all (inSet set.length)
structure PForm (set : List Tile) (p : Pattern) (W H : Nat) : Prop where
  w : p.Width = W
  h : p.Height = H
  dW : 1 ≤ W ∧ W ≤ 40000
  dH : 1 ≤ H ∧ H ≤ 40000
  wh : H * W ≤ 40000
  len : p.Cells.length = H * W
  cel : ∀ j, j < H * W → 0 ≤ p.Cells.getD j 0 ∧ p.Cells.getD j 0 < (set.length : Int)
theorem place_lt {W H x y : Nat} (hx : x < W) (hy : y < H) : y * W + x < H * W := by
  have := Nat.mul_le_mul_right W (show y + 1 ≤ H by omega)
  rw [Nat.succ_mul] at this; omega
end Gp
set_option linter.unusedVariables false
set_option linter.unusedSimpArgs false
namespace Gp
open Gw Gq
/-! ### the pictures are patterns of the tiles -/
theorem PForm.of {set : List Tile} {p : Pattern} {W H : Nat} (f : PForm set p W H) (hv : validT set = true) : ofB set p = true := by
  unfold ofB formB
  have h1 := f.dW; have h2 := f.dH; have h3 := f.wh
  have e : p.Width * p.Height = ((H * W : Nat) : Int) := by rw [f.w, f.h, Int.natCast_mul, Int.mul_comm]
  rw [hv, e, f.w, f.h, f.len]
  simp only [Bool.true_and, Bool.and_eq_true, decide_eq_true_eq, List.all_eq_true]
  refine ⟨⟨by omega, by omega, by omega, by omega, by omega, trivial⟩, fun a ha => ?_⟩
  obtain ⟨j, hj, he⟩ := List.mem_iff_getElem.1 ha
  have := f.cel j (by rw [← f.len]; exact hj)
  rw [show p.Cells.getD j 0 = p.Cells[j] from by simp [List.getElem?_eq_getElem hj], he] at this
  unfold inSet; exact decide_eq_true this
end Gp
set_option linter.unusedVariables false
set_option linter.unusedSimpArgs false
namespace Gq
end Gq
namespace Gp
open Gw Gq
/-! ### the patterns of the statements' own reference -/
end Gp
set_option linter.unusedVariables false
set_option linter.unusedSimpArgs false
namespace Gp
open Gw Gq
end Gp
set_option linter.unusedVariables false
set_option linter.unusedSimpArgs false
namespace Gp
open Gw Gq
/-! ### a torus, repeated -/
end Gp
set_option linter.unusedVariables false
set_option linter.unusedSimpArgs false
namespace Gp
open Gw Gq
/-! ### the first layer's reference -/
end Gp
set_option linter.unusedVariables false
set_option linter.unusedSimpArgs false
namespace Gp
open Gw Gq
/-! ### grids: lists of rows -/
def grid (w h : Nat) (g : Nat → Nat → Int) : List Int := (List.range h).flatMap fun y => (List.range w).map (g y)
theorem grid_len (w h : Nat) (g : Nat → Nat → Int) : (grid w h g).length = h * w := flat_len (f := fun y => (List.range w).map (g y)) (b := w) (fun y => by simp) h
theorem grid_get (w h : Nat) (g : Nat → Nat → Int) {x y : Nat} (hx : x < w) (hy : y < h) : (grid w h g).getD (y * w + x) 0 = g y x := by
  have := flat_get (f := fun y => (List.range w).map (g y)) (n := h) (q := y) (j := x) (t := g y x) hy (by simp [hx])
  have e : ((List.range y).flatMap fun y => (List.range w).map (g y)).length = y * w := grid_len w y g
  rw [e] at this
  unfold grid
  rw [List.getD_eq_getElem?_getD, this]; rfl
/-! ### stores into a list -/
def sets (l : List Int) (q : List (Nat × Int)) : List Int := q.foldl (fun l p => l.set p.1 p.2) l
/-! ### patterns that have the form of one -/
structure GForm (p : Pattern) (W H : Nat) : Prop where
  w : p.Width = W
  h : p.Height = H
  dW : 1 ≤ W ∧ W ≤ 40000
  dH : 1 ≤ H ∧ H ≤ 40000
  wh : H * W ≤ 40000
  len : p.Cells.length = H * W
theorem GForm.form {p : Pattern} {W H : Nat} (f : GForm p W H) : formB p = true := by
  have h1 := f.dW; have h2 := f.dH; have h3 := f.wh
  have e : p.Width * p.Height = ((H * W : Nat) : Int) := by rw [f.w, f.h, Int.natCast_mul, Int.mul_comm]
  unfold formB; rw [e, f.w, f.h, f.len]; exact decide_eq_true ⟨by omega, by omega, by omega, by omega, by omega, rfl⟩
theorem PForm.g {set : List Tile} {p : Pattern} {W H : Nat} (f : PForm set p W H) : GForm p W H := ⟨f.w, f.h, f.dW, f.dH, f.wh, f.len⟩
def cellG (p : Pattern) (W y x : Nat) : Int := p.Cells.getD (y * W + x) 0
theorem GForm.at {p : Pattern} {W H : Nat} (f : GForm p W H) {x y : Nat} (hx : x < W) (hy : y < H) : w64 (w64 ((y : Int) * (W : Int)) + (x : Int)) = ((y * W + x : Nat) : Int) ∧ (0 ≤ ((y * W + x : Nat) : Int) ∧ ((y * W + x : Nat) : Int) < (p.Cells.length : Int)) := by
  have hwh := f.wh
  have hp := place_lt hx hy
  refine ⟨?_, by omega, by rw [f.len]; omega⟩
  rw [← Int.natCast_mul, w64_id (n := ((y * W : Nat) : Int)) (by omega) (by omega), w64_id (by omega) (by omega)]; rfl
/-! ### the changed patterns -/
end Gp
set_option linter.unusedVariables false
set_option linter.unusedSimpArgs false
namespace Gp
open Gw Gq
/-! ### cuts -/
/-! ### patterns, repeated -/
/-! ### what is equal -/
end Gp
set_option linter.unusedVariables false
set_option linter.unusedSimpArgs false
namespace Gp
open Gw Gq
/-! ### changed sets -/
def upT (t : Tile) : Tile := ⟨t.S, t.E, t.N, t.W⟩
structure Chg (f : Tile → Tile) : Prop where
  inj : ∀ a b, f a = f b → a = b
  col : ∀ t, colB (f t) = colB t
theorem chg_up : Chg upT := ⟨fun a b h => by cases a; cases b; simp only [upT, Tile.mk.injEq] at h; obtain ⟨rfl, rfl, rfl, rfl⟩ := h; rfl, fun t => by unfold colB upT; simp only; cases inCol t.N <;> cases inCol t.E <;> cases inCol t.S <;> cases inCol t.W <;> rfl⟩
theorem getD_map (f : Tile → Tile) {s : List Tile} {i : Nat} (h : i < s.length) : (s.map f).getD i z_Tile = f (s.getD i z_Tile) := by simp [List.getElem?_eq_getElem h]
theorem Chg.valid {f : Tile → Tile} (c : Chg f) {s : List Tile} (hv : validT s = true) : validT (s.map f) = true := by
  unfold validT at hv ⊢
  simp only [Bool.and_eq_true, decide_eq_true_eq, List.all_eq_true, List.mem_range, List.length_map] at hv ⊢
  refine ⟨hv.1, fun i hi => ?_⟩
  have := hv.2 i hi
  unfold newB at this ⊢
  rw [getD_map f hi, ← List.map_take, c.col]
  simp only [Bool.and_eq_true, Bool.not_eq_true', decide_eq_false_iff_not] at this ⊢
  refine ⟨fun hm => this.1 ?_, this.2⟩
  obtain ⟨a, ha, he⟩ := List.mem_map.1 hm
  rw [← c.inj _ _ he]; exact ha
/-! ### how the tiles of a grid meet -/
def JP (W H : Nat) (round : Bool) (T : Nat → Nat → Tile) : Prop :=
  (∀ y x, y < H → x < W → (x + 1 < W ∨ round = true) → (T y x).E = (T y ((x + 1) % W)).W) ∧ (∀ y x, y < H → x < W → (y + 1 < H ∨ round = true) → (T y x).N = (T ((y + 1) % H) x).S)
theorem JP.congr {W H : Nat} {round : Bool} {T T' : Nat → Nat → Tile} (he : ∀ y x, y < H → x < W → T y x = T' y x) (h : JP W H round T) : JP W H round T' := by
  refine ⟨fun y x hy hx hr => ?_, fun y x hy hx hr => ?_⟩
  · rw [← he y x hy hx, ← he y _ hy (Nat.mod_lt _ (by omega))]; exact h.1 y x hy hx hr
  · rw [← he y x hy hx, ← he _ x (Nat.mod_lt _ (by omega)) hx]; exact h.2 y x hy hx hr
def GP (W H : Nat) (c : Nat → Nat → Int) : Pattern := ⟨W, H, grid W H c⟩
def TT (s : List Tile) (c : Nat → Nat → Int) (y x : Nat) : Tile := s.getD (c y x).toNat z_Tile
structure GOK (s : List Tile) (W H : Nat) (c : Nat → Nat → Int) (whole : Bool) : Prop where
  valid : validT s = true
  dW : 1 ≤ W ∧ W ≤ 40000
  dH : 1 ≤ H ∧ H ≤ 40000
  wh : H * W ≤ 40000
  cel : ∀ y x, y < H → x < W → 0 ≤ c y x ∧ c y x < (s.length : Int)
  fits : JP W H false (TT s c)
  round : whole = true ↔ JP W H true (TT s c)
theorem valid_len {s : List Tile} (hv : validT s = true) : s.length ≤ 1000 := by unfold validT at hv; simp only [Bool.and_eq_true, decide_eq_true_eq] at hv; exact hv.1
theorem GOK.congr {s : List Tile} {W H : Nat} {c c' : Nat → Nat → Int} {whole : Bool} (g : GOK s W H c whole) (he : ∀ y x, y < H → x < W → c y x = c' y x) : GOK s W H c' whole := by
  have ht : ∀ y x, y < H → x < W → TT s c y x = TT s c' y x := fun y x hy hx => by unfold TT; rw [he y x hy hx]
  exact ⟨g.valid, g.dW, g.dH, g.wh, fun y x hy hx => by rw [← he y x hy hx]; exact g.cel y x hy hx, g.fits.congr ht, g.round.trans ⟨fun h => h.congr ht, fun h => h.congr (fun y x hy hx => (ht y x hy hx).symm)⟩⟩
theorem TT_map {f : Tile → Tile} {s : List Tile} {c : Nat → Nat → Int} {y x : Nat} (h : 0 ≤ c y x ∧ c y x < (s.length : Int)) : TT (s.map f) c y x = f (TT s c y x) := by
  unfold TT
  rw [getD_map f (by omega)]
/-! mirrored -/
theorem mod_back {W x : Nat} (hx : x < W) : (W - 1 - (x + 1) % W + 1) % W = W - 1 - x ∧ W - 1 - (x + 1) % W < W ∧ (x + 1 < W → W - 1 - (x + 1) % W + 1 < W) := by
  by_cases h : x + 1 < W
  · rw [Nat.mod_eq_of_lt h, show W - 1 - (x + 1) + 1 = W - 1 - x by omega, Nat.mod_eq_of_lt (by omega)]; omega
  · have e : x + 1 = W := by omega
    rw [e, Nat.mod_self, show W - 1 - 0 + 1 = W by omega, Nat.mod_self]; omega
theorem JP.up {W H : Nat} {round : Bool} {T : Nat → Nat → Tile} (h : JP W H round T) : JP W H round (fun y x => upT (T (H - 1 - y) x)) := by
  refine ⟨fun y x hy hx hr => ?_, fun y x hy hx hr => ?_⟩
  · exact h.1 (H - 1 - y) x (by omega) hx hr
  · obtain ⟨e, hlt, hi⟩ := mod_back hy
    have := h.2 (H - 1 - (y + 1) % H) x hlt hx (hr.imp hi id)
    rw [e] at this
    exact this.symm
theorem GOK.up {s : List Tile} {W H : Nat} {c : Nat → Nat → Int} {whole : Bool} (g : GOK s W H c whole) : GOK (s.map upT) W H (fun y x => c (H - 1 - y) x) whole := by
  have hdH := g.dH
  have ht : ∀ y x, y < H → x < W → upT (TT s c (H - 1 - y) x) = TT (s.map upT) (fun y x => c (H - 1 - y) x) y x := fun y x hy hx => by
    exact (TT_map (f := upT) (c := fun y x => c (H - 1 - y) x) (y := y) (x := x) (g.cel (H - 1 - y) x (by omega) hx)).symm
  refine ⟨chg_up.valid g.valid, g.dW, g.dH, g.wh, fun y x hy hx => by rw [List.length_map]; exact g.cel _ x (by omega) hx, g.fits.up.congr ht, ?_⟩
  rw [g.round]
  constructor
  · exact fun h => h.up.congr ht
  · intro h
    have := (h.congr (fun y x hy hx => (ht y x hy hx).symm)).up
    exact this.congr fun y x hy hx => by
      rw [show H - 1 - (H - 1 - y) = y by omega]; rfl
theorem GP.g {W H : Nat} {c : Nat → Nat → Int} (dW : 1 ≤ W ∧ W ≤ 40000) (dH : 1 ≤ H ∧ H ≤ 40000) (wh : H * W ≤ 40000) : GForm (GP W H c) W H := ⟨rfl, rfl, dW, dH, wh, grid_len W H c⟩
theorem GP.cell {W H : Nat} (c : Nat → Nat → Int) {y x : Nat} (hy : y < H) (hx : x < W) : cellG (GP W H c) W y x = c y x := grid_get W H c hx hy
end Gp
set_option linter.unusedVariables false
set_option linter.unusedSimpArgs false
namespace Gp
open Gw Gq
end Gp
set_option linter.unusedVariables false
set_option linter.unusedSimpArgs false
namespace Gq
theorem loop_list {α σ τ : Type} {F : Nat → Int → σ → Option τ} (xs : List α) (step : σ → α → σ) (K : Nat) (P : Nat → σ → Prop) (fin : σ → τ)
    (hs : ∀ k i s (h : i < xs.length), K ≤ k → P i s → F (k + 1) (i : Int) s = F k ((i + 1 : Nat) : Int) (step s xs[i]) ∧ P (i + 1) (step s xs[i])) (he : ∀ k s, P xs.length s → F (k + 1) (xs.length : Int) s = some (fin s)) :
    ∀ (s0 : σ), P 0 s0 → ∀ k, xs.length + K < k → F k 0 s0 = some (fin (xs.foldl step s0)) := by
  have key : ∀ d i s k, i + d = xs.length → P i s → d + K < k → F k (i : Int) s = some (fin ((xs.drop i).foldl step s)) := by
    intro d
    induction d with
    | zero =>
      intro i s k hi hp hk
      obtain ⟨k, rfl⟩ : ∃ m, k = m + 1 := ⟨k - 1, by omega⟩
      have : i = xs.length := by omega
      subst this
      rw [he k s hp, List.drop_length]; rfl
    | succ d ih =>
      intro i s k hi hp hk
      obtain ⟨k, rfl⟩ : ∃ m, k = m + 1 := ⟨k - 1, by omega⟩
      have hlt : i < xs.length := by omega
      obtain ⟨h1, h2⟩ := hs k i s hlt (by omega) hp
      rw [h1, ih (i + 1) _ k (by omega) h2 (by omega), List.drop_eq_getElem_cons hlt]; rfl
  intro s0 h0 k hk
  have := key xs.length 0 s0 k (by omega) h0 hk
  simpa using this
end Gq
namespace Gp
open Gw Gq
/-! ### words, rows -/
def tat (set : List Tile) (i : Nat) : Tile := set.getD i z_Tile
def cz (c : List Nat) : List Int := c.map fun (i : Nat) => (i : Int)
def wordOf (l : List Int) : A8_Int := ⟨l.getD 0 0, l.getD 1 0, l.getD 2 0, l.getD 3 0, l.getD 4 0, l.getD 5 0, l.getD 6 0, l.getD 7 0⟩
def mkR (set : List Tile) (c : List Nat) : Row := ⟨cz c, wordOf (c.map fun i => (tat set i).S), wordOf (c.map fun i => (tat set i).N), (tat set (c.headD 0)).W, (tat set (c.getLastD 0)).E⟩
def follows (set : List Tile) (c : List Nat) (i : Nat) : Bool := match c.getLast? with
  | none => true
  | some j => (tat set j).E == (tat set i).W
def rowsL (set : List Tile) : Nat → List Nat → List (List Nat)
  | 0, c => [c]
  | n + 1, c => ((List.range set.length).filter (follows set c)).flatMap fun i => rowsL set n (c ++ [i])
theorem wordOf_get (l : List Int) (i : Nat) (hi : i < 8) : (wordOf l).get i = l.getD i 0 := by
  have : i = 0 ∨ i = 1 ∨ i = 2 ∨ i = 3 ∨ i = 4 ∨ i = 5 ∨ i = 6 ∨ i = 7 := by omega
  rcases this with rfl | rfl | rfl | rfl | rfl | rfl | rfl | rfl <;> rfl
theorem wordOf_inj {a b : List Int} (ha : a.length ≤ 8) (h : a.length = b.length) : wordOf a = wordOf b ↔ a = b := by
  constructor
  · intro e
    apply List.ext_getElem? 
    intro i
    by_cases hi : i < a.length
    · have h1 := wordOf_get a i (by omega)
      have h2 := wordOf_get b i (by omega)
      rw [e, h2] at h1
      rw [List.getElem?_eq_getElem hi, List.getElem?_eq_getElem (by omega)]
      simp only [List.getD, List.getElem?_eq_getElem hi, List.getElem?_eq_getElem (show i < b.length by omega), Option.getD_some] at h1
      rw [h1]
    · rw [List.getElem?_eq_none (by omega), List.getElem?_eq_none (by omega)]
  · intro e; rw [e]
theorem wordOf_set (l : List Int) (v : Int) (hl : l.length < 8) : (wordOf l).set l.length v = wordOf (l ++ [v]) := by
  have : l.length = 0 ∨ l.length = 1 ∨ l.length = 2 ∨ l.length = 3 ∨ l.length = 4 ∨ l.length = 5 ∨ l.length = 6 ∨ l.length = 7 := by omega
  match l, this with
  | [], _ => rfl
  | [a], _ => rfl
  | [a, b], _ => rfl
  | [a, b, c], _ => rfl
  | [a, b, c, d], _ => rfl
  | [a, b, c, d, e], _ => rfl
  | [a, b, c, d, e, f], _ => rfl
  | [a, b, c, d, e, f, g], _ => rfl
  | _ :: _ :: _ :: _ :: _ :: _ :: _ :: _ :: l, h => simp at h
theorem rowOf_l0 (set : List Tile) (c : List Nat) (hc : ∀ i ∈ c, i < set.length) (h8 : c.length ≤ 8) {k : Nat} (hk : c.length < k) :
    rows_rowOf.l0 k (A8_Int.mk 0 0 0 0 0 0 0 0) (A8_Int.mk 0 0 0 0 0 0 0 0) 0 set (cz c) = some (wordOf (c.map fun i => (tat set i).S), wordOf (c.map fun i => (tat set i).N)) := by
  have key : ∀ d i k, i + d = c.length → d < k → rows_rowOf.l0 k (wordOf ((c.take i).map fun i => (tat set i).S)) (wordOf ((c.take i).map fun i => (tat set i).N)) (i : Int) set (cz c) = some (wordOf (c.map fun i => (tat set i).S), wordOf (c.map fun i => (tat set i).N)) := by
    intro d
    induction d with
    | zero =>
      intro i k hi hk
      obtain ⟨k, rfl⟩ : ∃ m, k = m + 1 := ⟨k - 1, by omega⟩
      have : i = c.length := by omega
      subst this
      rw [rows_rowOf.l0, if_neg (by simp [cz]), List.take_length]
    | succ d ih =>
      intro i k hi hk
      obtain ⟨k, rfl⟩ : ∃ m, k = m + 1 := ⟨k - 1, by omega⟩
      have hlt : i < c.length := by omega
      have hci := hc c[i] (List.getElem_mem _)
      have hz : rdD (cz c) (i : Int) 0 = ((c[i] : Nat) : Int) := by rw [rdD_get (by simpa [cz] using hlt)]; simp [cz]
      rw [rows_rowOf.l0, if_pos (by simp [cz]; omega), if_pos (by simp [cz]; omega), hz, if_pos (by omega), if_pos (by omega), w64_id (by omega) (by omega), rdD_nat]
      have e1 := wordOf_set ((c.take i).map fun i => (tat set i).S) (tat set c[i]).S (by simp; omega)
      have e2 := wordOf_set ((c.take i).map fun i => (tat set i).N) (tat set c[i]).N (by simp; omega)
      have hlen : ((c.take i).map fun i => (tat set i).S).length = i := by simp; omega
      have hlen2 : ((c.take i).map fun i => (tat set i).N).length = i := by simp; omega
      rw [hlen] at e1; rw [hlen2] at e2
      have ht : c.take (i + 1) = c.take i ++ [c[i]] := by rw [List.take_add_one, List.getElem?_eq_getElem hlt]; rfl
      show rows_rowOf.l0 k (A8_Int.set _ i (tat set c[i]).S) (A8_Int.set _ i (tat set c[i]).N) _ set (cz c) = _
      rw [e1, e2]
      have := ih (i + 1) k (by omega) (by omega)
      rw [ht, List.map_append, List.map_append] at this
      exact this
  exact key c.length 0 k (by omega) hk
theorem rowOf_eq (set : List Tile) (c : List Nat) (hc : ∀ i ∈ c, i < set.length) (h8 : c.length ≤ 8) (h1 : 1 ≤ c.length) {k : Nat} (hk : c.length < k) : rows_rowOf k set (cz c) = some (mkR set c) := by
  have hl : (cz c).length = c.length := by simp [cz]
  have h0 : rdD (cz c) (0 : Int) 0 = ((c.headD 0 : Nat) : Int) := by
    cases c with
    | nil => simp at h1
    | cons a r => rfl
  have hn : c ≠ [] := by intro e; rw [e] at h1; simp at h1
  have hh : c.headD 0 < set.length := by
    cases c with
    | nil => simp at h1
    | cons a r => exact hc a (by simp)
  have hlast : c.getLastD 0 < set.length := by
    rw [List.getLastD_eq_getLast?, List.getLast?_eq_some_getLast hn]; exact hc _ (List.getLast_mem hn)
  have hw : w64 (((cz c).length : Int) - 1) = ((c.length - 1 : Nat) : Int) := by rw [hl, w64_id (by omega) (by omega)]; omega
  have hz : rdD (cz c) (((c.length - 1 : Nat) : Int)) 0 = ((c.getLastD 0 : Nat) : Int) := by
    rw [rdD_get (by rw [hl]; omega)]
    rw [List.getLastD_eq_getLast?, List.getLast?_eq_some_getLast hn, Option.getD_some, List.getLast_eq_getElem]
    simp [cz]
  unfold rows_rowOf
  rw [rowOf_l0 set c hc h8 hk, hw, hz, h0, if_pos (by simp [cz]; omega), Option.bind_some, if_pos (by rw [hl]; omega), if_pos (by omega), if_pos (by rw [hl]; omega), if_pos (by omega), rdD_nat, rdD_nat]
  rfl
theorem all1 (set : List Tile) (w : Nat) (h1 : 1 ≤ w) (h8 : w ≤ 8) (hl : set.length ≤ 1000000) : ∀ (n x : Nat) (c : List Nat) (out : List Row) (cells : List Int) (k : Nat), x + n = w → c.length = x → (∀ i ∈ c, i < set.length) → cells.length = w → cells.take x = cz c →
    out.length + (rowsL set n c).length ≤ 100000000000 → n + set.length + 10 < k → ∃ cells', rows_All_1 k (x : Int) (w : Int) out set cells = some (out ++ (rowsL set n c).map (mkR set), cells') ∧ cells'.length = w ∧ cells'.take x = cz c := by
  intro n
  induction n with
  | zero =>
    intro x c out cells k hx hc hcs hcl hct hb hk
    obtain ⟨k, rfl⟩ : ∃ m, k = m + 1 := ⟨k - 1, by omega⟩
    have hxw : x = w := by omega
    subst hxw
    have he : cells = cz c := by rw [← hct, ← hcl, List.take_length]
    refine ⟨cells, ?_, hcl, hct⟩
    rw [rows_All_1, if_pos (by simp), he, rowOf_eq set c hcs (by omega) (by omega) (by omega), Option.bind_some, if_pos (by simp [rowsL] at hb; omega)]
    rfl
  | succ n ih =>
    intro x c out cells k hx hc hcs hcl hct hb hk
    obtain ⟨k, rfl⟩ : ∃ m, k = m + 1 := ⟨k - 1, by omega⟩
    have key : ∀ d i k' (out : List Row) (cells : List Int), i + d = set.length → d < k' → cells.length = w → cells.take x = cz c → out.length + (((List.range' i d).filter (follows set c)).flatMap fun i => rowsL set n (c ++ [i])).length ≤ 100000000000 →
        ∃ cells', rows_All_1.l0 k' out cells (i : Int) (x : Int) (w : Int) set (rows_All_1 k) = some (out ++ (((List.range' i d).filter (follows set c)).flatMap fun i => rowsL set n (c ++ [i])).map (mkR set), cells') ∧ cells'.length = w ∧ cells'.take x = cz c := by
      intro d
      induction d with
      | zero =>
        intro i k' out cells hi hk' hcl hct hb
        obtain ⟨k', rfl⟩ : ∃ m, k' = m + 1 := ⟨k' - 1, by omega⟩
        have : i = set.length := by omega
        subst this
        refine ⟨cells, ?_, hcl, hct⟩
        rw [rows_All_1.l0, if_neg (by simp)]; simp
      | succ d ihd =>
        intro i k' out cells hi hk' hcl hct hb
        obtain ⟨k', rfl⟩ : ∃ m, k' = m + 1 := ⟨k' - 1, by omega⟩
        have hlt : i < set.length := by omega
        have hcond : (if ((x : Int) == 0) = true then (some true) else (if 0 ≤ w64 ((x : Int) - 1) ∧ w64 ((x : Int) - 1) < (cells.length : Int) then (if 0 ≤ (rdD cells (w64 ((x : Int) - 1)) 0) ∧ (rdD cells (w64 ((x : Int) - 1)) 0) < (set.length : Int) then (some (((rdD set (rdD cells (w64 ((x : Int) - 1)) 0) z_Tile).E) == ((rdD set (i : Int) z_Tile).W))) else none) else none)) = some (follows set c i) := by
          by_cases h0 : x = 0
          · subst h0
            have : c = [] := List.eq_nil_of_length_eq_zero hc
            subst this
            rfl
          · have hn : c ≠ [] := by intro e; rw [e] at hc; simp at hc; omega
            have hw : w64 ((x : Int) - 1) = ((x - 1 : Nat) : Int) := by rw [w64_id (by omega) (by omega)]; omega
            have hz : rdD cells (((x - 1 : Nat) : Int)) 0 = ((c.getLast hn : Nat) : Int) := by
              rw [rdD_get (by omega)]
              have : cells[x - 1]'(by omega) = (cells.take x)[x - 1]'(by simp; omega) := by simp
              rw [this]
              simp only [hct, List.getLast_eq_getElem]
              simp [cz, hc]
            have hm := hcs _ (List.getLast_mem hn)
            rw [if_neg (by simp; omega), hw, if_pos (by omega), hz, if_pos (by omega), rdD_nat, rdD_nat]
            unfold follows
            rw [List.getLast?_eq_some_getLast hn]; rfl
        have hwi : w64 ((i : Int) + 1) = ((i + 1 : Nat) : Int) := by rw [w64_id (by omega) (by omega)]; rfl
        rw [rows_All_1.l0, if_pos (by simpa using hlt), if_pos (by omega), hcond, Option.bind_some, hwi]
        rw [List.range'_succ, List.filter_cons] at hb ⊢
        cases hf : follows set c i
        · rw [hf] at hb
          simp only [Bool.false_eq_true, if_false] at hb ⊢
          rw [Option.bind_some]
          exact ihd (i + 1) k' out cells (by omega) (by omega) hcl hct hb
        · rw [hf] at hb
          simp only [if_true, List.flatMap_cons, List.length_append] at hb ⊢
          have hset : (cells.set x (i : Int)).take (x + 1) = cz (c ++ [i]) := by
            rw [List.take_add_one, List.take_set_of_le (Nat.le_refl _), hct, List.getElem?_set_self (by omega)]
            simp [cz]
          have hw1 : w64 ((x : Int) + 1) = ((x + 1 : Nat) : Int) := by rw [w64_id (by omega) (by omega)]; rfl
          obtain ⟨cells1, e1, l1, t1⟩ := ih (x + 1) (c ++ [i]) out (cells.set x (i : Int)) k (by omega) (by simp [hc]) (fun j hj => by
            rcases List.mem_append.1 hj with hj | hj
            · exact hcs j hj
            · simp at hj; omega) (by simp [hcl]) hset (by omega) (by omega)
          have t1' : cells1.take x = cz c := by
            have : cells1.take x = (cells1.take (x + 1)).take x := by rw [List.take_take, Nat.min_eq_left (by omega)]
            rw [this, t1]
            simp [cz, ← hc]
          obtain ⟨cells2, e2, l2, t2⟩ := ihd (i + 1) k' (out ++ (rowsL set n (c ++ [i])).map (mkR set)) cells1 (by omega) (by omega) l1 t1' (by simp only [List.length_append, List.length_map]; omega)
          refine ⟨cells2, ?_, l2, t2⟩
          rw [if_pos (by omega), hw1]
          simp only [Int.toNat_natCast]
          rw [e1, Option.bind_some, Option.bind_some]
          show rows_All_1.l0 k' _ cells1 ((i + 1 : Nat) : Int) _ _ _ _ = _
          rw [e2, List.map_append, List.append_assoc]
    rw [rowsL] at hb
    rw [List.range_eq_range'] at hb
    obtain ⟨cells', e, l, t⟩ := key set.length 0 k out cells (by omega) (by omega) hcl hct hb
    refine ⟨cells', ?_, l, t⟩
    rw [rows_All_1, if_neg (by simp; omega)]
    have e' : rows_All_1.l0 k out cells 0 (x : Int) (w : Int) set (rows_All_1 k) = _ := e
    rw [e', Option.bind_some, rowsL, List.range_eq_range']
theorem rowsL_len (set : List Tile) : ∀ (n : Nat) (c : List Nat), (rowsL set n c).length ≤ set.length ^ n
  | 0, c => by simp [rowsL]
  | n + 1, c => by
    rw [rowsL, List.length_flatMap]
    have : ∀ l : List Nat, (l.map fun i => (rowsL set n (c ++ [i])).length).sum ≤ l.length * set.length ^ n := by
      intro l
      induction l with
      | nil => simp
      | cons a r ih =>
        simp only [List.map_cons, List.sum_cons, List.length_cons]
        have := rowsL_len set n (c ++ [a])
        rw [Nat.add_mul]; omega
    refine Nat.le_trans (this _) ?_
    have h2 : ((List.range set.length).filter (follows set c)).length ≤ set.length := by
      have := List.length_filter_le (follows set c) (List.range set.length); simpa using this
    rw [Nat.pow_succ, Nat.mul_comm (set.length ^ n)]
    exact Nat.mul_le_mul_right _ h2
def allR (set : List Tile) (w : Nat) : List Row := (rowsL set w []).map (mkR set)
theorem all_eq (set : List Tile) (w : Nat) (h1 : 1 ≤ w) (h8 : w ≤ 8) (hl : set.length ≤ 1000000) (hf : set.length ^ w ≤ 100000000000) {k : Nat} (hk : set.length + 20 < k) : rows_All k set (w : Int) = some (allR set w) := by
  have hb := rowsL_len set w []
  obtain ⟨cells, e, _, _⟩ := all1 set w h1 h8 hl w 0 [] [] (List.replicate w 0) k (by omega) rfl (fun i h => by cases h) (by simp) (by simp [cz]) (by simp; omega) (by omega)
  unfold rows_All
  have e' : rows_All_1 k 0 (w : Int) [] set (List.replicate w 0) = _ := e
  rw [if_pos (by omega), Int.toNat_natCast, e']; rfl
/-! few -/
def fewB (n w : Nat) : Bool := decide ((max n 1) ^ w ≤ 5000)
theorem few_eq (set : List Tile) (w : Nat) (hw : w ≤ 1000) (hl : set.length ≤ 1000000) {k : Nat} (hk : w < k) : rows_Few k set (w : Int) = some (fewB set.length w) := by
  have hm : maxI (set.length : Int) 1 = ((max set.length 1 : Nat) : Int) := by unfold maxI; split <;> omega
  obtain ⟨m, hmd⟩ : ∃ m, max set.length 1 = m := ⟨_, rfl⟩
  have hm1 : 1 ≤ m := by omega
  have hm2 : m ≤ 1000000 := by omega
  have key : ∀ d i k, i + d = w → d < k → m ^ i ≤ 5000 → rows_Few.l0 k ((m ^ i : Nat) : Int) (i : Int) set (w : Int) = some (if m ^ w ≤ 5000 then .inr () else .inl false) := by
    intro d
    induction d with
    | zero =>
      intro i k hi hk hp
      obtain ⟨k, rfl⟩ : ∃ m, k = m + 1 := ⟨k - 1, by omega⟩
      have : i = w := by omega
      subst this
      rw [rows_Few.l0, if_neg (by simp), if_pos hp]
    | succ d ih =>
      intro i k hi hk hp
      obtain ⟨k, rfl⟩ : ∃ m, k = m + 1 := ⟨k - 1, by omega⟩
      have hpp : m ^ i * m ≤ 5000 * 1000000 := Nat.mul_le_mul hp hm2
      have e : w64 (((m ^ i : Nat) : Int) * maxI (set.length : Int) 1) = ((m ^ (i + 1) : Nat) : Int) := by
        rw [hm, hmd, ← Int.natCast_mul, Nat.pow_succ, w64_id (by omega) (by omega)]
      have hle : m ^ (i + 1) ≤ m ^ w := Nat.pow_le_pow_right hm1 (by omega)
      obtain ⟨q, hq⟩ : ∃ q, m ^ (i + 1) = q := ⟨_, rfl⟩
      rw [rows_Few.l0, if_pos (by simp; omega), e]
      have hwi : w64 ((i : Int) + 1) = ((i + 1 : Nat) : Int) := by rw [w64_id (by omega) (by omega)]; rfl
      by_cases h5 : q ≤ 5000
      · rw [if_neg (by rw [hq]; simp; omega), hwi]
        exact ih (i + 1) k (by omega) (by omega) (by rw [hq]; exact h5)
      · rw [if_pos (by rw [hq]; simp; omega), if_neg]
        intro hw5
        omega
  have := key w 0 k (by omega) hk (by simp)
  have h0 : rows_Few.l0 k 1 0 set (w : Int) = _ := this
  unfold rows_Few fewB
  rw [h0, hmd]
  by_cases h5 : m ^ w ≤ 5000
  · rw [if_pos h5]; simp [sumb, h5]
  · rw [if_neg h5]; simp [sumb, h5]
end Gp
set_option linter.unusedVariables false
set_option linter.unusedSimpArgs false
namespace Gq
open Gw
theorem mget_mput {κ ν : Type} [DecidableEq κ] (x y : κ) (z v : ν) : ∀ l : List (κ × ν), mget x z (mput y v l) = if x = y then v else mget x z l
  | [] => by simp [mput, mget]
  | p :: r => by
    simp only [mput]
    by_cases h : y = p.1
    · rw [if_pos h]
      simp only [mget]
      by_cases hx : x = y
      · rw [if_pos hx, if_pos hx]
      · rw [if_neg hx, if_neg hx, if_neg (fun e => hx (e.trans h.symm))]
    · rw [if_neg h]
      simp only [mget]
      by_cases hx : x = p.1
      · rw [if_pos hx, if_pos hx, if_neg (fun e => h (e.symm.trans hx))]
      · rw [if_neg hx, if_neg hx]; exact mget_mput x y z v r
theorem mget_marks {α κ : Type} [DecidableEq κ] (key : α → κ) (c : α → Bool) (x : κ) : ∀ (l : List α) (m : List (κ × Bool)), mget x false (l.foldl (fun m a => if c a = true then mput (key a) true m else m) m) = (mget x false m || l.any fun a => decide (key a = x) && c a)
  | [], m => by simp
  | a :: r, m => by
    rw [List.foldl_cons, mget_marks key c x r, List.any_cons]
    cases hc : c a
    · simp
    · simp only [if_true, mget_mput, Bool.and_true]
      by_cases h : x = key a
      · simp [h]
      · have : ¬ key a = x := fun e => h e.symm
        simp [h, this]
end Gq
namespace Gp
open Gw Gq
/-! ### rectangles that are filled -/
theorem word_beq (a b : A8_Int) : (a.e0 == b.e0 && (a.e1 == b.e1 && (a.e2 == b.e2 && (a.e3 == b.e3 && (a.e4 == b.e4 && (a.e5 == b.e5 && (a.e6 == b.e6 && a.e7 == b.e7))))))) = decide (a = b) := by
  rw [Bool.eq_iff_iff, decide_eq_true_eq]
  simp only [Bool.and_eq_true, beq_iff_eq]
  constructor
  · rintro ⟨h0, h1, h2, h3, h4, h5, h6, h7⟩; cases a; cases b; simp_all
  · intro h; subst h; simp
def atB (l : List Int) (i : Nat) (c : Int) : Bool := decide (l.length = 0) || l.getD i 0 == c
theorem at_eq' (l : List Int) (i : Nat) (c : Int) (h : l.length = 0 ∨ i < l.length) : fill_at l (i : Int) c = some (atB l i c) := by
  unfold fill_at atB
  by_cases h0 : l.length = 0
  · rw [if_pos (by simp [h0])]; simp [h0]
  · rw [if_neg (by simp; simpa using h0), if_pos (by omega), rdD_nat]; simp [h0]
structure EdgeOK (e : Edges) (w h : Nat) : Prop where
  n : e.North.length = 0 ∨ e.North.length = w
  s : e.South.length = 0 ∨ e.South.length = w
  ea : e.East.length = 0 ∨ e.East.length = h
  we : e.West.length = 0 ∨ e.West.length = h
def colE (e : Edges) (h : Nat) (r : Row) (y x : Nat) : Bool := (!(decide (y = 0)) || atB e.South x (r.South.get x)) && (!(decide (y + 1 = h)) || atB e.North x (r.North.get x))
def alB (e : Edges) (w h : Nat) (r : Row) (y : Nat) : Bool := atB e.West y r.West && atB e.East y r.East && (List.range w).all (colE e h r y)
theorem allows_eq {e : Edges} {w h : Nat} (he : EdgeOK e w h) (hw : w ≤ 8) (hh : h ≤ 1000) (R : List Row) (r : Row) {y : Nat} (hy : y < h) {k : Nat} (hk : w < k) : fill_job_allows k ⟨R, w, h, e⟩ r (y : Int) = some (alB e w h r y) := by
  have hl := loop_all (F := fun k x (_ : Unit) => fill_job_allows.l0 k x ⟨R, w, h, e⟩ r (y : Int)) (S := fun _ => ()) (b := colE e h r y) (n := w) (K := 0) (r := false) (e := ()) (fun k x _ hx => by
    show fill_job_allows.l0 (k + 1) x ⟨R, w, h, e⟩ r (y : Int) = if colE e h r y x = true then fill_job_allows.l0 k ((x + 1 : Nat) : Int) ⟨R, w, h, e⟩ r (y : Int) else _
    have hwx : w64 ((x : Int) + 1) = ((x + 1 : Nat) : Int) := by rw [w64_id (by omega) (by omega)]; rfl
    have hwh : w64 ((h : Int) - 1) = ((h - 1 : Nat) : Int) := by rw [w64_id (by omega) (by omega)]; omega
    have hx8 : 0 ≤ (x : Int) ∧ (x : Int) < 8 := by omega
    have hS := at_eq' e.South x (r.South.get x) (he.s.imp id (fun h => by omega))
    have hN := at_eq' e.North x (r.North.get x) (he.n.imp id (fun h => by omega))
    rw [fill_job_allows.l0, if_pos (by simpa using hx), hwx, hwh]
    simp only [if_pos hx8, hS, hN, Option.bind_some]
    have e1 : ((y : Int) == ((h - 1 : Nat) : Int)) = decide (y + 1 = h) := by
      rw [Bool.eq_iff_iff]; simp; omega
    have e0 : ((y : Int) == 0) = decide (y = 0) := by rw [Bool.eq_iff_iff]; simp
    rw [e1, e0]
    unfold colE
    cases decide (y = 0) <;> cases decide (y + 1 = h) <;> cases atB e.South x (r.South.get x) <;> cases atB e.North x (r.North.get x) <;> simp) (fun k => by
    show fill_job_allows.l0 (k + 1) w ⟨R, w, h, e⟩ r (y : Int) = _
    rw [fill_job_allows.l0, if_neg (by simp)]) k (by omega)
  have h0 : fill_job_allows.l0 k 0 ⟨R, w, h, e⟩ r (y : Int) = some (if (List.range w).all (colE e h r y) = true then .inr () else .inl false) := hl
  unfold fill_job_allows alB
  rw [at_eq' e.West y r.West (he.we.imp id (fun h => by omega)), at_eq' e.East y r.East (he.ea.imp id (fun h => by omega)), h0]
  simp only [Option.bind_some]
  cases atB e.West y r.West <;> cases atB e.East y r.East <;> cases (List.range w).all (colE e h r y) <;> simp [sumb]
def canUp (R : List Row) (al : Row → Nat → Bool) (h : Nat) : Nat → Row → Bool
  | 0, r => al r (h - 1)
  | n + 1, r => al r (h - 1 - (n + 1)) && R.any fun r' => decide (r'.South = r.North) && canUp R al h n r'
def OkAt (R : List Row) (al : Row → Nat → Bool) (h : Nat) (ok : List (Option (List (A8_Int × Bool)))) (y : Nat) : Prop := ∃ m, ok[y]? = some (some m) ∧ ∀ s, mget s false m = R.any fun r => decide (r.South = s) && canUp R al h (h - 1 - y) r
theorem first_l3 {e : Edges} {w h : Nat} (he : EdgeOK e w h) (hw : w ≤ 8) (hh : h ≤ 1000) (R : List Row) (hR : R.length ≤ 1000000) {y : Nat} (hy : y < h) (ok : List (Option (List (A8_Int × Bool)))) (hlen : ok.length = h) (hup : y + 1 < h → OkAt R (alB e w h) h ok (y + 1)) {k : Nat} (hk : R.length + w + 1 < k) :
    fill_First.l3 k (ok.set y (some [])) 0 (h : Int) e ⟨R, w, h, e⟩ (y : Int) = some (ok.set y (some (R.foldl (fun m r => if canUp R (alB e w h) h (h - 1 - y) r = true then mput r.South true m else m) []))) := by
  have hwh : w64 ((h : Int) - 1) = ((h - 1 : Nat) : Int) := by rw [w64_id (by omega) (by omega)]; omega
  have hwy : w64 ((y : Int) + 1) = ((y + 1 : Nat) : Int) := by rw [w64_id (by omega) (by omega)]; rfl
  have hl := loop_list (F := fun k i (m : List (A8_Int × Bool)) => fill_First.l3 k (ok.set y (some m)) i (h : Int) e ⟨R, w, h, e⟩ (y : Int)) R (fun m r => if canUp R (alB e w h) h (h - 1 - y) r = true then mput r.South true m else m) (w + 1) (fun _ _ => True) (fun m => ok.set y (some m)) (fun k i m hi hk _ => by
    refine ⟨?_, trivial⟩
    show fill_First.l3 (k + 1) (ok.set y (some m)) i (h : Int) e ⟨R, w, h, e⟩ (y : Int) = _
    have hwi : w64 ((i : Int) + 1) = ((i + 1 : Nat) : Int) := by rw [w64_id (by omega) (by omega)]; rfl
    have hal : ∀ r, fill_job_allows k (Job.mk R w h e) r (y : Int) = some (alB e w h r y) := fun r => allows_eq he hw hh R r hy (by omega)
    rw [fill_First.l3, if_pos (by simpa using hi), if_pos (by simp; omega)]
    simp only [hal, rdD_get hi, hwh, hwy, hwi, Option.bind_some]
    have hcond : (if (((y : Int) == ((h - 1 : Nat) : Int)) = true) then (some (alB e w h R[i] y)) else ((if alB e w h R[i] y = true then (if 0 ≤ ((y + 1 : Nat) : Int) ∧ ((y + 1 : Nat) : Int) < ((ok.set y (some m)).length : Int) then ((rdD (ok.set y (some m)) ((y + 1 : Nat) : Int) none).bind fun m5799 => (some (mget R[i].North false m5799))) else none) else (some false)).bind fun b => some b)) = some (canUp R (alB e w h) h (h - 1 - y) R[i]) := by
      by_cases hlast : y + 1 = h
      · rw [if_pos (by simp; omega)]
        have : h - 1 - y = 0 := by omega
        rw [this, canUp, show h - 1 = y by omega]
      · rw [if_neg (by simp; omega), if_pos (show 0 ≤ ((y + 1 : Nat) : Int) ∧ ((y + 1 : Nat) : Int) < ((ok.set y (some m)).length : Int) by simp; omega), rdD_nat]
        obtain ⟨m', hm1, hm2⟩ := hup (by omega)
        have hg : (ok.set y (some m)).getD (y + 1) none = some m' := by
          rw [List.getD_eq_getElem?_getD, List.getElem?_set_ne (by omega), hm1]; rfl
        rw [hg, Option.bind_some, hm2]
        have : h - 1 - y = (h - 1 - (y + 1)) + 1 := by omega
        rw [this, canUp, show h - 1 - (h - 1 - (y + 1) + 1) = y by omega]
        cases alB e w h R[i] y <;> rfl
    have hc2 := hcond
    rw [hc2, Option.bind_some]
    have hg : rdD (ok.set y (some m)) (y : Int) none = some m := by
      rw [rdD_nat, List.getD_eq_getElem?_getD, List.getElem?_set_self (by omega)]; rfl
    rw [hg]
    cases hcu : canUp R (alB e w h) h (h - 1 - y) R[i]
    · simp
    · simp only [if_true]
      rw [if_pos (by simp; omega)]
      simp [List.set_set]) (fun k m _ => by
    show fill_First.l3 (k + 1) (ok.set y (some m)) R.length (h : Int) e ⟨R, w, h, e⟩ (y : Int) = _
    rw [fill_First.l3, if_neg (by simp)]) [] trivial k (by omega)
  exact hl
theorem first_l2 {e : Edges} {w h : Nat} (he : EdgeOK e w h) (hw : w ≤ 8) (hh : h ≤ 1000) (R : List Row) (hR : R.length ≤ 1000000) : ∀ (n : Nat) (ok : List (Option (List (A8_Int × Bool)))) (k : Nat), n ≤ h → ok.length = h → (∀ y, n ≤ y → y < h → OkAt R (alB e w h) h ok y) → R.length + w + n + 2 < k →
    ∃ ok', fill_First.l2 k ok ((n : Int) - 1) (h : Int) e ⟨R, w, h, e⟩ = some ok' ∧ ok'.length = h ∧ ∀ y, y < h → OkAt R (alB e w h) h ok' y := by
  intro n
  induction n with
  | zero =>
    intro ok k hn hl hok hk
    obtain ⟨k, rfl⟩ : ∃ m, k = m + 1 := ⟨k - 1, by omega⟩
    exact ⟨ok, by rw [fill_First.l2, if_neg (by simp)], hl, fun y hy => hok y (by omega) hy⟩
  | succ n ih =>
    intro ok k hn hl hok hk
    obtain ⟨k, rfl⟩ : ∃ m, k = m + 1 := ⟨k - 1, by omega⟩
    have e1 : (((n + 1 : Nat) : Int) - 1) = (n : Int) := by omega
    rw [e1, fill_First.l2, if_pos (by simp), if_pos (by omega)]
    have hwn : w64 ((n : Int) - 1) = (n : Int) - 1 := w64_id (by omega) (by omega)
    rw [Int.toNat_natCast, first_l3 he hw hh R hR (by omega) ok hl (fun h1 => hok (n + 1) (by omega) h1) (by omega), Option.bind_some, hwn]
    refine ih _ k (by omega) (by simpa using hl) (fun y hy1 hy2 => ?_) (by omega)
    by_cases hyn : y = n
    · subst hyn
      refine ⟨_, List.getElem?_set_self (by omega), fun s => ?_⟩
      rw [mget_marks]; simp [mget]
    · obtain ⟨m, h1, h2⟩ := hok y (by omega) hy2
      exact ⟨m, by rw [List.getElem?_set_ne (by omega)]; exact h1, h2⟩
def firstIdx {α : Type} (p : α → Bool) : Nat → List α → Int
  | _, [] => -1
  | i, a :: r => if p a = true then (i : Int) else firstIdx p (i + 1) r
def belowB (R : List Row) (b : Option Nat) (r : Row) : Bool := match b with
  | none => true
  | some i => decide ((R.getD i z_Row).North = r.South)
def bz (b : Option Nat) : Option Int := b.map fun (i : Nat) => (i : Int)
theorem first_l5 {e : Edges} {w h : Nat} (he : EdgeOK e w h) (hw : w ≤ 8) (hh : h ≤ 1000) (R : List Row) (hR : R.length ≤ 1000000) {y : Nat} (hy : y < h) (ok : List (Option (List (A8_Int × Bool)))) (hlen : ok.length = h) (hok : ∀ y, y < h → OkAt R (alB e w h) h ok y) (b : Option Nat) (hb : ∀ i, b = some i → i < R.length) {k : Nat} (hk : R.length + w < k) :
    fill_First.l5 k (bz b) 0 (h : Int) e ⟨R, w, h, e⟩ ok (y : Int) = some (firstIdx (fun r => canUp R (alB e w h) h (h - 1 - y) r && belowB R b r) 0 R) := by
  have hwh : w64 ((h : Int) - 1) = ((h - 1 : Nat) : Int) := by rw [w64_id (by omega) (by omega)]; omega
  have hwy : w64 ((y : Int) + 1) = ((y + 1 : Nat) : Int) := by rw [w64_id (by omega) (by omega)]; rfl
  have key : ∀ d i k, i + d = R.length → d + w < k → fill_First.l5 k (bz b) (i : Int) (h : Int) e ⟨R, w, h, e⟩ ok (y : Int) = some (firstIdx (fun r => canUp R (alB e w h) h (h - 1 - y) r && belowB R b r) i (R.drop i)) := by
    intro d
    induction d with
    | zero =>
      intro i k hi hk
      obtain ⟨k, rfl⟩ : ∃ m, k = m + 1 := ⟨k - 1, by omega⟩
      have : i = R.length := by omega
      subst this
      rw [fill_First.l5, if_neg (by simp), List.drop_length]; rfl
    | succ d ih =>
      intro i k hi hk
      obtain ⟨k, rfl⟩ : ∃ m, k = m + 1 := ⟨k - 1, by omega⟩
      have hlt : i < R.length := by omega
      have hwi : w64 ((i : Int) + 1) = ((i + 1 : Nat) : Int) := by rw [w64_id (by omega) (by omega)]; rfl
      have hal : ∀ r, fill_job_allows k (Job.mk R w h e) r (y : Int) = some (alB e w h r y) := fun r => allows_eq he hw hh R r hy (by omega)
      have hbel : optM (bz b) (some true) (fun j => if 0 ≤ j ∧ j < (R.length : Int) then (some ((((rdD R j z_Row).North).e0) == (R[i].South.e0) && ((((rdD R j z_Row).North).e1) == (R[i].South.e1) && ((((rdD R j z_Row).North).e2) == (R[i].South.e2) && ((((rdD R j z_Row).North).e3) == (R[i].South.e3) && ((((rdD R j z_Row).North).e4) == (R[i].South.e4) && ((((rdD R j z_Row).North).e5) == (R[i].South.e5) && ((((rdD R j z_Row).North).e6) == (R[i].South.e6) && (((rdD R j z_Row).North).e7) == (R[i].South.e7))))))))) else none) = some (belowB R b R[i]) := by
        cases b with
        | none => rfl
        | some j =>
          have := hb j rfl
          show (if 0 ≤ (j : Int) ∧ (j : Int) < (R.length : Int) then _ else none) = _
          rw [if_pos (by omega), rdD_nat, word_beq]; rfl
      rw [fill_First.l5, if_pos (by simpa using hlt), if_pos (by simp; omega)]
      simp only [hal, rdD_get hlt, hwh, hwy, hwi, Option.bind_some, hbel]
      rw [List.drop_eq_getElem_cons hlt, firstIdx]
      have hcond : (if (((y : Int) == ((h - 1 : Nat) : Int)) = true) then ((if alB e w h R[i] y = true then (some (belowB R b R[i])) else (some false)).bind fun b => some b) else ((if alB e w h R[i] y = true then (some (belowB R b R[i])) else (some false)).bind fun b5786 => (if b5786 = true then (if 0 ≤ ((y + 1 : Nat) : Int) ∧ ((y + 1 : Nat) : Int) < (ok.length : Int) then ((rdD ok ((y + 1 : Nat) : Int) none).bind fun m5799 => (some (mget R[i].North false m5799))) else none) else (some false)).bind fun b => some b)) = some (canUp R (alB e w h) h (h - 1 - y) R[i] && belowB R b R[i]) := by
        by_cases hlast : y + 1 = h
        · rw [if_pos (by simp; omega)]
          have : h - 1 - y = 0 := by omega
          rw [this, canUp, show h - 1 = y by omega]
          cases alB e w h R[i] y <;> simp
        · rw [if_neg (by simp; omega), if_pos (show 0 ≤ ((y + 1 : Nat) : Int) ∧ ((y + 1 : Nat) : Int) < (ok.length : Int) by omega), rdD_nat]
          obtain ⟨m', hm1, hm2⟩ := hok (y + 1) (by omega)
          have hg : ok.getD (y + 1) none = some m' := by rw [List.getD_eq_getElem?_getD, hm1]; rfl
          rw [hg, Option.bind_some, hm2]
          have : h - 1 - y = (h - 1 - (y + 1)) + 1 := by omega
          rw [this, canUp, show h - 1 - (h - 1 - (y + 1) + 1) = y by omega]
          cases alB e w h R[i] y <;> cases belowB R b R[i] <;> simp
      have hc2 := hcond
      rw [hc2, Option.bind_some]
      cases hcu : (canUp R (alB e w h) h (h - 1 - y) R[i] && belowB R b R[i])
      · simp only [Bool.false_eq_true, if_false]
        exact ih (i + 1) k (by omega) (by omega)
      · rfl
  have := key R.length 0 k (by omega) hk
  simpa using this
end Gp
set_option linter.unusedVariables false
set_option linter.unusedSimpArgs false
namespace Gp
open Gw Gq
theorem firstIdx_eq {α : Type} (p : α → Bool) : ∀ (l : List α) (i : Nat), firstIdx p i l = match l.findIdx? p with
    | none => -1
    | some j => ((i + j : Nat) : Int)
  | [], i => rfl
  | a :: r, i => by
    rw [firstIdx, List.findIdx?_cons]
    cases p a
    · simp only [Bool.false_eq_true, if_false]
      rw [firstIdx_eq p r (i + 1)]
      cases r.findIdx? p with
      | none => rfl
      | some j => simp only [Option.map_some]; congr 1; omega
    · simp
def greedy (R : List Row) (al : Row → Nat → Bool) (h : Nat) : Nat → Option Nat → Option (List Nat)
  | 0, _ => some []
  | m + 1, b => match R.findIdx? (fun r => canUp R al h m r && belowB R b r) with
    | none => none
    | some i => (greedy R al h m (some i)).map (i :: ·)
def cellsOf (R : List Row) (l : List Nat) : List Int := l.flatMap fun i => (R.getD i z_Row).Cells
def p0P : Pattern := ⟨0, 0, []⟩
theorem findIdx_lt {α : Type} {p : α → Bool} {l : List α} {i : Nat} (h : l.findIdx? p = some i) : ∃ hi : i < l.length, p l[i] = true := by
  rw [List.findIdx?_eq_some_iff_getElem] at h
  exact ⟨h.1, h.2.1⟩
theorem first_l4 {e : Edges} {w h : Nat} (he : EdgeOK e w h) (hw : w ≤ 8) (hh : h ≤ 1000) (R : List Row) (hR : R.length ≤ 1000000) (hC : ∀ r ∈ R, r.Cells.length ≤ 8) (ok : List (Option (List (A8_Int × Bool)))) (hlen : ok.length = h) (hok : ∀ y, y < h → OkAt R (alB e w h) h ok y) :
    ∀ (m : Nat) (cells : List Int) (b : Option Nat) (k : Nat), m ≤ h → (∀ i, b = some i → i < R.length) → cells.length + 8 * m ≤ 100000000000 → m + R.length + w + 1 < k →
      fill_First.l4 k cells (bz b) ((h - m : Nat) : Int) (h : Int) e ⟨R, w, h, e⟩ ok = some (match greedy R (alB e w h) h m b with
        | none => .inl (p0P, 6)
        | some l => .inr (cells ++ cellsOf R l)) := by
  intro m
  induction m with
  | zero =>
    intro cells b k hm hb hc hk
    obtain ⟨k, rfl⟩ : ∃ m, k = m + 1 := ⟨k - 1, by omega⟩
    rw [fill_First.l4, if_neg (by simp)]
    simp [greedy, cellsOf]
  | succ m ih =>
    intro cells b k hm hb hc hk
    obtain ⟨k, rfl⟩ : ∃ m, k = m + 1 := ⟨k - 1, by omega⟩
    have hwy : w64 (((h - (m + 1) : Nat) : Int) + 1) = ((h - m : Nat) : Int) := by rw [w64_id (by omega) (by omega)]; omega
    rw [fill_First.l4, if_pos (by simp; omega), first_l5 he hw hh R hR (y := h - (m + 1)) (by omega) ok hlen hok b hb (by omega), Option.bind_some, firstIdx_eq, greedy, show h - 1 - (h - (m + 1)) = m by omega]
    cases hf : R.findIdx? (fun r => canUp R (alB e w h) h m r && belowB R b r) with
    | none => simp [p0P]
    | some i =>
      obtain ⟨hi, _⟩ := findIdx_lt hf
      have hCi := hC R[i] (List.getElem_mem _)
      have hzi : ((0 + i : Nat) : Int) = (i : Int) := by omega
      simp only [hzi]
      rw [if_neg (by simp), if_pos (by omega), rdD_get hi, if_pos (by omega), hwy]
      have := ih (cells ++ R[i].Cells) (some i) k (by omega) (fun j hj => by injection hj with hj; omega) (by rw [List.length_append]; omega) (by omega)
      have this' : fill_First.l4 k (cells ++ R[i].Cells) (some (i : Int)) ((h - m : Nat) : Int) (h : Int) e ⟨R, w, h, e⟩ ok = _ := this
      rw [this']
      cases greedy R (alB e w h) h m (some i) with
      | none => rfl
      | some l =>
        simp only [Option.map_some]
        simp [cellsOf, List.getElem?_eq_getElem hi]
theorem canUp_greedy (R : List Row) (al : Row → Nat → Bool) (h : Nat) : ∀ (m : Nat) (i : Nat) (hi : i < R.length), canUp R al h m R[i] = true → greedy R al h m (some i) ≠ none
  | 0, i, hi, _ => by simp [greedy]
  | m + 1, i, hi, hc => by
    rw [canUp, Bool.and_eq_true, List.any_eq_true] at hc
    obtain ⟨_, r', hr', hc'⟩ := hc
    rw [Bool.and_eq_true, decide_eq_true_eq] at hc'
    rw [greedy]
    cases hf : R.findIdx? (fun r => canUp R al h m r && belowB R (some i) r) with
    | none =>
      rw [List.findIdx?_eq_none_iff] at hf
      have := hf r' hr'
      have hb : belowB R (some i) r' = true := by simp [belowB, List.getElem?_eq_getElem hi, hc'.1]
      rw [hc'.2, hb] at this; cases this
    | some j =>
      obtain ⟨hj, hp⟩ := findIdx_lt hf
      rw [Bool.and_eq_true] at hp
      have := canUp_greedy R al h m j hj hp.1
      cases hg : greedy R al h m (some j) with
      | none => exact absurd hg this
      | some l => simp [hg]
theorem greedy_none (R : List Row) (al : Row → Nat → Bool) (h m : Nat) : greedy R al h (m + 1) none = none ↔ ∀ r ∈ R, canUp R al h m r = false := by
  rw [greedy]
  constructor
  · intro hg r hr
    cases hf : R.findIdx? (fun r => canUp R al h m r && belowB R none r) with
    | none =>
      rw [List.findIdx?_eq_none_iff] at hf
      simpa [belowB] using hf r hr
    | some i =>
      exfalso
      obtain ⟨hi, hp⟩ := findIdx_lt hf
      rw [Bool.and_eq_true] at hp
      have := canUp_greedy R al h m i hi hp.1
      rw [hf] at hg
      cases hg2 : greedy R al h m (some i) with
      | none => exact this hg2
      | some l => simp only [hg2] at hg; cases hg
  · intro hn
    have hf : R.findIdx? (fun r => canUp R al h m r && belowB R none r) = none := by
      rw [List.findIdx?_eq_none_iff]; intro r hr; rw [hn r hr]; rfl
    rw [hf]
/-! the whole function -/
def sidesB (e : Edges) (w h : Int) : Bool := (decide (e.North.length = 0) || decide ((e.North.length : Int) = w)) && (decide (e.South.length = 0) || decide ((e.South.length : Int) = w)) && (decide (e.East.length = 0) || decide ((e.East.length : Int) = h)) && (decide (e.West.length = 0) || decide ((e.West.length : Int) = h))
theorem begin_l0 (e : Edges) (w h : Int) (k : Nat) : fill_begin.l0 (k + 5) 0 w h e = some (if sidesB e w h = true then .inr () else .inl (none, 2)) := by
  have hside : ∀ (l : List Int) (n : Int), ((((l.length : Int) != 0) && ((l.length : Int) != n)) = !(decide (l.length = 0) || decide ((l.length : Int) = n))) := fun l n => by
    rw [Bool.eq_iff_iff]; simp
  have h1 : w64 (0 + 1) = 1 := by rw [w64_id (by omega) (by omega)]; rfl
  have h2 : w64 (1 + 1) = 2 := by rw [w64_id (by omega) (by omega)]; rfl
  have h3 : w64 (2 + 1) = 3 := by rw [w64_id (by omega) (by omega)]; rfl
  have h4 : w64 (3 + 1) = 4 := by rw [w64_id (by omega) (by omega)]; rfl
  unfold sidesB
  rw [fill_begin.l0, if_pos (by simp), if_pos (by simp), show rdD [(S_side_n.mk e.North w), (S_side_n.mk e.South w), (S_side_n.mk e.East h), (S_side_n.mk e.West h)] 0 z_S_side_n = S_side_n.mk e.North w from rfl, h1, hside]
  cases ha : (decide (e.North.length = 0) || decide ((e.North.length : Int) = w))
  · simp
  rw [if_neg (by simp), fill_begin.l0, if_pos (by simp), if_pos (by simp), show rdD [(S_side_n.mk e.North w), (S_side_n.mk e.South w), (S_side_n.mk e.East h), (S_side_n.mk e.West h)] 1 z_S_side_n = S_side_n.mk e.South w from rfl, h2, hside]
  cases hb : (decide (e.South.length = 0) || decide ((e.South.length : Int) = w))
  · simp
  rw [if_neg (by simp), fill_begin.l0, if_pos (by simp), if_pos (by simp), show rdD [(S_side_n.mk e.North w), (S_side_n.mk e.South w), (S_side_n.mk e.East h), (S_side_n.mk e.West h)] 2 z_S_side_n = S_side_n.mk e.East h from rfl, h3, hside]
  cases hc : (decide (e.East.length = 0) || decide ((e.East.length : Int) = h))
  · simp
  rw [if_neg (by simp), fill_begin.l0, if_pos (by simp), if_pos (by simp), show rdD [(S_side_n.mk e.North w), (S_side_n.mk e.South w), (S_side_n.mk e.East h), (S_side_n.mk e.West h)] 3 z_S_side_n = S_side_n.mk e.West h from rfl, h4, hside]
  cases hd : (decide (e.West.length = 0) || decide ((e.West.length : Int) = h))
  · simp
  rw [if_neg (by simp), fill_begin.l0, if_neg (by simp)]
  simp
theorem max_pow {n w : Nat} (h : fewB n w = true) : n ^ w ≤ 5000 := by
  unfold fewB at h
  rw [decide_eq_true_eq] at h
  exact Nat.le_trans (Nat.pow_le_pow_left (Nat.le_max_left n 1) w) h
def firstX (set : List Tile) (w h : Nat) (e : Edges) : Pattern × Int := match greedy (allR set w) (alB e w h) h h none with
  | none => (p0P, 6)
  | some l => (⟨w, h, cellsOf (allR set w) l⟩, 0)
theorem allR_len (set : List Tile) (w : Nat) : (allR set w).length ≤ set.length ^ w := by
  unfold allR; rw [List.length_map]; exact rowsL_len set w []
theorem rowsL_length (set : List Tile) : ∀ (n : Nat) (c d : List Nat), d ∈ rowsL set n c → d.length = c.length + n
  | 0, c, d, h => by simp [rowsL] at h; subst h; rfl
  | n + 1, c, d, h => by
    rw [rowsL, List.mem_flatMap] at h
    obtain ⟨i, _, h⟩ := h
    have := rowsL_length set n _ d h
    simp at this; omega
theorem first_ok (set : List Tile) (w h : Nat) (e : Edges) (hv : validT set = true) (hw : 1 ≤ w ∧ w ≤ 8) (hh : 1 ≤ h ∧ h ≤ 60) (he : sidesB e w h = true) (hf : fewB set.length w = true) {k : Nat} (hk : 10000 < k) : fill_First k set w h e = some (firstX set w h e) := by
  have hl := valid_len hv
  have hp := max_pow hf
  have hRl := allR_len set w
  have heo : EdgeOK e w h := by
    unfold sidesB at he
    simp only [Bool.and_eq_true, Bool.or_eq_true, decide_eq_true_eq] at he
    exact ⟨he.1.1.1.imp id (fun h => by omega), he.1.1.2.imp id (fun h => by omega), he.1.2.imp id (fun h => by omega), he.2.imp id (fun h => by omega)⟩
  have hC : ∀ r ∈ allR set w, r.Cells.length ≤ 8 := by
    intro r hr
    unfold allR at hr
    obtain ⟨c, hc, rfl⟩ := List.mem_map.1 hr
    have := rowsL_length set w [] c hc
    simp [mkR, cz]; simp at this; omega
  obtain ⟨j, rfl⟩ : ∃ j, k = j + 5 := ⟨k - 5, by omega⟩
  unfold fill_First fill_begin
  rw [tile_valid set (by omega) (by omega), hv, Option.bind_some, if_neg (by simp), if_neg (by simp; omega), begin_l0, he, few_eq set w (by omega) (by omega) (by omega), hf, all_eq set w hw.1 hw.2 (by omega) (by omega) (by omega)]
  simp only [if_true, Option.bind_some, sumb, Bool.not_true, Bool.false_eq_true, if_false, optM, bne_self_eq_false]
  have hwh : w64 ((h : Int) - 1) = (h : Int) - 1 := w64_id (by omega) (by omega)
  rw [if_pos (by omega), Int.toNat_natCast, hwh]
  obtain ⟨ok', e1, l1, o1⟩ := first_l2 heo hw.2 (by omega) (allR set w) (by omega) h (List.replicate h none) (j + 5) (Nat.le_refl _) (by simp) (fun y h1 h2 => by omega) (by omega)
  rw [e1, Option.bind_some]
  have e2 := first_l4 heo hw.2 (by omega) (allR set w) (by omega) hC ok' l1 o1 h [] none (j + 5) (Nat.le_refl _) (fun i hi => by cases hi) (by simp; omega) (by omega)
  rw [Nat.sub_self] at e2
  have e2' : fill_First.l4 (j + 5) [] none 0 (h : Int) e ⟨allR set w, w, h, e⟩ ok' = _ := e2
  rw [e2', Option.bind_some]
  unfold firstX
  cases greedy (allR set w) (alB e w h) h h none with
  | none => rfl
  | some l => simp [sumb]
end Gp
set_option linter.unusedVariables false
set_option linter.unusedSimpArgs false
namespace Gp
open Gw Gq
/-! ### rows and patterns -/
theorem mem_rowsL0 (set : List Tile) : ∀ (n : Nat) (pre c : List Nat), c ∈ rowsL set n pre ↔ c.take pre.length = pre ∧ c.length = pre.length + n ∧ ∀ j, pre.length ≤ j → j < c.length → c.getD j 0 < set.length ∧ follows set (c.take j) (c.getD j 0) = true
  | 0, pre, c => by
    rw [rowsL, List.mem_singleton]
    constructor
    · intro h; subst h; exact ⟨List.take_length, rfl, fun j h1 h2 => by omega⟩
    · rintro ⟨h1, h2, _⟩
      rw [← h1, List.take_of_length_le (by omega)]
  | n + 1, pre, c => by
    rw [rowsL, List.mem_flatMap]
    constructor
    · rintro ⟨i, hi, hc⟩
      rw [List.mem_filter, List.mem_range] at hi
      obtain ⟨h1, h2, h3⟩ := (mem_rowsL0 set n (pre ++ [i]) c).1 hc
      rw [List.length_append, List.length_singleton] at h1 h2 h3
      have hp : c.take pre.length = pre := by
        have : c.take pre.length = (c.take (pre.length + 1)).take pre.length := by rw [List.take_take, Nat.min_eq_left (by omega)]
        rw [this, h1]; simp
      refine ⟨hp, by omega, fun j hj1 hj2 => ?_⟩
      by_cases e : j = pre.length
      · subst e
        have hg : c.getD pre.length 0 = i := by
          have h5 : (c.take (pre.length + 1))[pre.length]? = some i := by rw [h1]; simp
          rw [List.getElem?_take, if_pos (by omega)] at h5
          rw [List.getD_eq_getElem?_getD, h5]; rfl
        rw [hg, hp]; exact hi
      · exact h3 j (by omega) hj2
    · rintro ⟨h1, h2, h3⟩
      have hlt : pre.length < c.length := by omega
      obtain ⟨h4, h5⟩ := h3 pre.length (Nat.le_refl _) hlt
      rw [h1] at h5
      refine ⟨c.getD pre.length 0, ?_, (mem_rowsL0 set n _ c).2 ⟨?_, by simp; omega, fun j hj1 hj2 => h3 j (by simp at hj1; omega) hj2⟩⟩
      · rw [List.mem_filter, List.mem_range]; exact ⟨h4, h5⟩
      · rw [List.length_append, List.length_singleton, List.take_add_one, h1, List.getElem?_eq_getElem hlt]
        simp [List.getElem?_eq_getElem hlt]
structure RowOK (set : List Tile) (w : Nat) (c : List Nat) : Prop where
  len : c.length = w
  lt : ∀ x, x < w → c.getD x 0 < set.length
  adj : ∀ x, x + 1 < w → (tat set (c.getD x 0)).E = (tat set (c.getD (x + 1) 0)).W
theorem follows_take (set : List Tile) (c : List Nat) (j : Nat) (hj : j < c.length) (i : Nat) : follows set (c.take (j + 1)) i = ((tat set (c.getD j 0)).E == (tat set i).W) := by
  unfold follows
  have : (c.take (j + 1)).getLast? = some (c.getD j 0) := by
    have e : c.take (j + 1) = c.take j ++ [c[j]] := by rw [List.take_add_one, List.getElem?_eq_getElem hj]; rfl
    rw [e, List.getLast?_append]
    simp [List.getElem?_eq_getElem hj]
  rw [this]
theorem mem_rowsL (set : List Tile) (w : Nat) (c : List Nat) : c ∈ rowsL set w [] ↔ RowOK set w c := by
  rw [mem_rowsL0]
  constructor
  · rintro ⟨_, h2, h3⟩
    have hl : c.length = w := by simpa using h2
    refine ⟨hl, fun x hx => (h3 x (by simp) (by omega)).1, fun x hx => ?_⟩
    have := (h3 (x + 1) (by simp) (by omega)).2
    rw [follows_take set c x (by omega)] at this
    exact eq_of_beq this
  · rintro ⟨h1, h2, h3⟩
    refine ⟨by simp, by simp [h1], fun j _ hj => ⟨h2 j (by omega), ?_⟩⟩
    cases j with
    | zero => simp [follows]
    | succ j => rw [follows_take set c j (by omega), h3 j (by omega)]; simp
def sideN (set : List Tile) (c : List Nat) : List Int := c.map fun i => (tat set i).N
def sideS (set : List Tile) (c : List Nat) : List Int := c.map fun i => (tat set i).S
structure Fill (set : List Tile) (w h : Nat) (f : Nat → List Nat) : Prop where
  row : ∀ y, y < h → RowOK set w (f y)
  up : ∀ y, y + 1 < h → sideN set (f y) = sideS set (f (y + 1))
theorem canUp_iff (R : List Row) (al : Row → Nat → Bool) (h : Nat) : ∀ (n : Nat) (r : Row), n + 1 ≤ h → (canUp R al h n r = true ↔ ∃ g : Nat → Row, g 0 = r ∧ (∀ j, j ≤ n → al (g j) (h - 1 - n + j) = true) ∧ (∀ j, j < n → g (j + 1) ∈ R) ∧ ∀ j, j < n → (g (j + 1)).South = (g j).North)
  | 0, r, hn => by
    rw [canUp]
    constructor
    · intro h1; exact ⟨fun _ => r, rfl, fun j hj => by have : j = 0 := by omega
                                                       subst this; exact h1, fun j hj => by omega, fun j hj => by omega⟩
    · rintro ⟨g, rfl, h1, _, _⟩; exact h1 0 (Nat.le_refl _)
  | n + 1, r, hn => by
    rw [canUp, Bool.and_eq_true, List.any_eq_true]
    constructor
    · rintro ⟨h1, r', hr', h2⟩
      rw [Bool.and_eq_true, decide_eq_true_eq] at h2
      obtain ⟨g, rfl, g1, g2, g3⟩ := (canUp_iff R al h n r' (by omega)).1 h2.2
      refine ⟨fun j => if j = 0 then r else g (j - 1), rfl, fun j hj => ?_, fun j hj => ?_, fun j hj => ?_⟩
      · by_cases e : j = 0
        · subst e; simpa using h1
        · simp only [e, if_false]
          have := g1 (j - 1) (by omega)
          rwa [show h - 1 - n + (j - 1) = h - 1 - (n + 1) + j by omega] at this
      · simp only [Nat.add_sub_cancel, Nat.succ_ne_zero, if_false, Nat.add_eq_zero_iff, Nat.one_ne_zero, and_false]
        cases j with
        | zero => exact hr'
        | succ j => exact g2 j (by omega)
      · cases j with
        | zero => simpa using h2.1
        | succ j => simpa using g3 j (by omega)
    · rintro ⟨g, rfl, g1, g2, g3⟩
      refine ⟨by simpa using g1 0 (by omega), g 1, g2 0 (by omega), ?_⟩
      rw [Bool.and_eq_true, decide_eq_true_eq]
      refine ⟨g3 0 (by omega), (canUp_iff R al h n (g 1) (by omega)).2 ⟨fun j => g (j + 1), rfl, fun j hj => ?_, fun j hj => g2 (j + 1) (by omega), fun j hj => g3 (j + 1) (by omega)⟩⟩
      have := g1 (j + 1) (by omega)
      rwa [show h - 1 - (n + 1) + (j + 1) = h - 1 - n + j by omega] at this
theorem mem_allR (set : List Tile) (w : Nat) (r : Row) : r ∈ allR set w ↔ ∃ c, RowOK set w c ∧ r = mkR set c := by
  unfold allR
  rw [List.mem_map]
  constructor
  · rintro ⟨c, hc, rfl⟩; exact ⟨c, (mem_rowsL set w c).1 hc, rfl⟩
  · rintro ⟨c, hc, rfl⟩; exact ⟨c, (mem_rowsL set w c).2 hc, rfl⟩
theorem mkR_sides {set : List Tile} {w : Nat} (hw : w ≤ 8) {c d : List Nat} (hc : c.length = w) (hd : d.length = w) : (mkR set d).South = (mkR set c).North ↔ sideN set c = sideS set d := by
  show wordOf (sideS set d) = wordOf (sideN set c) ↔ _
  rw [wordOf_inj (by simp [sideS]; omega) (by simp [sideS, sideN]; omega)]
  exact eq_comm
theorem canUp_fill (set : List Tile) {w h : Nat} (hw : w ≤ 8) (hh : 1 ≤ h) (al : Row → Nat → Bool) : (∃ r ∈ allR set w, canUp (allR set w) al h (h - 1) r = true) ↔ ∃ f, Fill set w h f ∧ ∀ y, y < h → al (mkR set (f y)) y = true := by
  constructor
  · rintro ⟨r, hr, hc⟩
    obtain ⟨g, rfl, g1, g2, g3⟩ := (canUp_iff _ al h (h - 1) r (by omega)).1 hc
    have hg : ∀ y, y < h → g y ∈ allR set w := fun y hy => by
      cases y with
      | zero => exact hr
      | succ y => exact g2 y (by omega)
    have hex : ∀ y, ∃ c, y < h → RowOK set w c ∧ g y = mkR set c := fun y => by
      by_cases hy : y < h
      · obtain ⟨c, h1, h2⟩ := (mem_allR set w _).1 (hg y hy); exact ⟨c, fun _ => ⟨h1, h2⟩⟩
      · exact ⟨[], fun h => absurd h hy⟩
    obtain ⟨f, hf⟩ : ∃ f : Nat → List Nat, ∀ y, y < h → RowOK set w (f y) ∧ g y = mkR set (f y) := ⟨fun y => Classical.choose (hex y), fun y => Classical.choose_spec (hex y)⟩
    refine ⟨f, ⟨fun y hy => (hf y hy).1, fun y hy => ?_⟩, fun y hy => ?_⟩
    · have := g3 y (by omega)
      rw [(hf y (by omega)).2, (hf (y + 1) hy).2] at this
      exact (mkR_sides hw (hf y (by omega)).1.len (hf (y + 1) hy).1.len).1 this
    · have := g1 y (by omega)
      rw [(hf y hy).2] at this
      rwa [show h - 1 - (h - 1) + y = y by omega] at this
  · rintro ⟨f, hf, ha⟩
    refine ⟨mkR set (f 0), (mem_allR set w _).2 ⟨_, hf.row 0 (by omega), rfl⟩, (canUp_iff _ al h (h - 1) _ (by omega)).2 ⟨fun y => mkR set (f y), rfl, fun j hj => ?_, fun j hj => ?_, fun j hj => ?_⟩⟩
    · rw [show h - 1 - (h - 1) + j = j by omega]; exact ha j (by omega)
    · exact (mem_allR set w _).2 ⟨_, hf.row (j + 1) (by omega), rfl⟩
    · exact (mkR_sides hw (hf.row j (by omega)).len (hf.row (j + 1) (by omega)).len).2 (hf.up j (by omega))
def patR (w h : Nat) (f : Nat → List Nat) : Pattern := ⟨w, h, (List.range h).flatMap fun y => cz (f y)⟩
theorem patR_cells {set : List Tile} {w h : Nat} {f : Nat → List Nat} (hf : Fill set w h f) : (patR w h f).Cells.length = h * w ∧ ∀ x y, x < w → y < h → (patR w h f).Cells.getD (y * w + x) 0 = (((f y).getD x 0 : Nat) : Int) := by
  have key : ∀ n, n ≤ h → ((List.range n).flatMap fun y => cz (f y)).length = n * w := by
    intro n
    induction n with
    | zero => intro _; simp
    | succ n ih =>
      intro hn
      rw [flat_succ, List.length_append, ih (by omega), Nat.add_mul]
      have := (hf.row n (by omega)).len
      simp [cz, this]
  refine ⟨key h (Nat.le_refl _), fun x y hx hy => ?_⟩
  have hsplit : ∀ n, y < n → n ≤ h → ((List.range n).flatMap fun y => cz (f y))[y * w + x]? = some (((f y).getD x 0 : Nat) : Int) := by
    intro n
    induction n with
    | zero => intro h; omega
    | succ n ih =>
      intro hy hn
      rw [flat_succ, List.getElem?_append, key n (by omega)]
      by_cases e : y = n
      · subst e
        have hl := (hf.row y (by omega)).len
        rw [if_neg (by omega), show y * w + x - y * w = x by omega]
        simp [cz, List.getElem?_map, List.getElem?_eq_getElem (show x < (f y).length by omega)]
      · rw [if_pos (place_lt hx (by omega))]; exact ih (by omega) (by omega)
  show ((List.range h).flatMap fun y => cz (f y)).getD (y * w + x) 0 = _
  rw [List.getD_eq_getElem?_getD, hsplit h hy (Nat.le_refl _)]; rfl
end Gp
set_option linter.unusedVariables false
set_option linter.unusedSimpArgs false
namespace Gp
open Gw Gq
/-! ### squares -/
def e0 : Edges := Edges.mk ([] : List Int) ([] : List Int) ([] : List Int) ([] : List Int)
theorem e0_sides (w h : Int) : sidesB e0 w h = true := by simp [sidesB, e0]
theorem e0_al (w h : Nat) (r : Row) (y : Nat) : alB e0 w h r y = true := by
  unfold alB colE
  simp [atB, e0]
theorem first_iff (set : List Tile) {w h : Nat} (e : Edges) (hw : w ≤ 8) (hh : 1 ≤ h) : (firstX set w h e).2 = 0 ↔ ∃ f, Fill set w h f ∧ ∀ y, y < h → alB e w h (mkR set (f y)) y = true := by
  rw [← canUp_fill set hw hh]
  unfold firstX
  obtain ⟨m, rfl⟩ : ∃ m, h = m + 1 := ⟨h - 1, by omega⟩
  have hn := greedy_none (allR set w) (alB e w (m + 1)) (m + 1) m
  cases hg : greedy (allR set w) (alB e w (m + 1)) (m + 1) (m + 1) none with
  | none =>
    simp only
    constructor
    · intro h; cases h
    · rintro ⟨r, hr, hc⟩
      have := hn.1 hg r hr
      rw [show m + 1 - 1 = m by omega] at hc
      rw [this] at hc; cases hc
  | some l =>
    simp only [true_iff]
    apply Classical.byContradiction
    intro hno
    have : greedy (allR set w) (alB e w (m + 1)) (m + 1) (m + 1) none = none := hn.2 (fun r hr => by
      cases hc : canUp (allR set w) (alB e w (m + 1)) (m + 1) m r
      · rfl
      · exact absurd ⟨r, hr, hc⟩ hno)
    rw [this] at hg; cases hg
def fillB (set : List Tile) (n : Nat) : Bool := (firstX set n n e0).2 == 0
theorem fillB_iff (set : List Tile) {n : Nat} (h1 : 1 ≤ n) (h8 : n ≤ 8) : fillB set n = true ↔ ∃ f, Fill set n n f := by
  unfold fillB
  rw [beq_iff_eq, first_iff set e0 h8 h1]
  exact ⟨fun ⟨f, hf, _⟩ => ⟨f, hf⟩, fun ⟨f, hf⟩ => ⟨f, hf, fun y _ => e0_al _ _ _ _⟩⟩
theorem exists_ok (set : List Tile) (n : Nat) (hv : validT set = true) (h1 : 1 ≤ n) (h8 : n ≤ 8) (hf : fewB set.length n = true) {k : Nat} (hk : 10000 < k) : square_Exists k set n = some (fillB set n, 0) := by
  have hl := valid_len hv
  unfold square_Exists square_check square_exists
  rw [tile_valid set (by omega) (by omega), hv, Option.bind_some, if_neg (by simp), if_neg (by simp; omega), few_eq set n (by omega) (by omega) (by omega), hf, Option.bind_some, if_neg (by simp), Option.bind_some, if_neg (by simp)]
  have := first_ok set n n e0 hv ⟨h1, h8⟩ ⟨h1, by omega⟩ (e0_sides _ _) hf hk
  unfold e0 at this
  rw [this]; rfl
theorem exists_bad (set : List Tile) (n : Int) (hl : set.length ≤ 9223372036854775807) {k : Nat} (hk : 10000 < k) :
    (validT set = false → square_Exists k set n = some (false, 1)) ∧ (validT set = true → ¬ (1 ≤ n ∧ n ≤ 8) → square_Exists k set n = some (false, 2)) ∧ (validT set = true → (1 ≤ n ∧ n ≤ 8) → fewB set.length n.toNat = false → square_Exists k set n = some (false, 4)) := by
  unfold square_Exists square_check
  rw [tile_valid set (by omega) hl]
  refine ⟨fun hv => ?_, fun hv hn => ?_, fun hv hn hf => ?_⟩
  · rw [hv]; rfl
  · rw [hv, Option.bind_some, if_neg (by simp), if_pos (by simp; omega)]; rfl
  · have h8 := valid_len hv
    have hfe := few_eq set n.toNat (by omega) (by omega) (k := k) (by omega)
    rw [Int.toNat_of_nonneg (by omega)] at hfe
    rw [hv, Option.bind_some, if_neg (by simp), if_neg (by simp; omega), hfe, hf]; rfl
end Gp
set_option linter.unusedVariables false
set_option linter.unusedSimpArgs false
namespace Gp
open Gw Gq
/-! ### tori -/
def ringL (set : List Tile) (w : Nat) : List Row := (allR set w).filter fun r => r.West == r.East
theorem foldl_filter {α : Type} (p : α → Bool) : ∀ (l acc : List α), l.foldl (fun a x => if p x = true then a ++ [x] else a) acc = acc ++ l.filter p
  | [], acc => by simp
  | x :: r, acc => by
    rw [List.foldl_cons, foldl_filter p r, List.filter_cons]
    cases p x <;> simp
theorem rings_eq (set : List Tile) (w : Nat) (h1 : 1 ≤ w) (h8 : w ≤ 8) (hl : set.length ≤ 1000000) (hf : set.length ^ w ≤ 1000000) {k : Nat} (hk : set.length + set.length ^ w + 20 < k) : torus_rings k set (w : Int) = some (ringL set w) := by
  have hR := allR_len set w
  unfold torus_rings
  rw [all_eq set w h1 h8 hl (by omega) (by omega), Option.bind_some]
  have := loop_list (F := fun k i (s : List Row) => torus_rings.l0 k s i (allR set w)) (allR set w) (fun a x => if (x.West == x.East) = true then a ++ [x] else a) 0 (fun i s => s.length ≤ i) id (fun k i s h _ hP => by
    have hwi : w64 ((i : Int) + 1) = ((i + 1 : Nat) : Int) := by rw [w64_id (by omega) (by omega)]; rfl
    constructor
    · show torus_rings.l0 (k + 1) s i (allR set w) = _
      rw [torus_rings.l0, if_pos (by simpa using h), if_pos (by omega), rdD_get h, hwi]
      cases hb : ((allR set w)[i].West == (allR set w)[i].East)
      · simp
      · simp only [if_true]; rw [if_pos (by omega)]; rfl
    · split
      · rw [List.length_append]; simp; omega
      · omega) (fun k s _ => by
    show torus_rings.l0 (k + 1) s (allR set w).length (allR set w) = _
    rw [torus_rings.l0, if_neg (by simp)]; rfl) [] (Nat.le_refl _) k (by omega)
  have h2 : torus_rings.l0 k [] 0 (allR set w) = some (id ((allR set w).foldl (fun a x => if (x.West == x.East) = true then a ++ [x] else a) [])) := this
  rw [h2, foldl_filter]; rfl
def nextM (l : List Row) (m : List (A8_Int × Bool)) : List (A8_Int × Bool) := l.foldl (fun acc r => if mget r.North false m = true then mput r.South true acc else acc) []
def itM (l : List Row) (t : A8_Int) : Nat → List (A8_Int × Bool)
  | 0 => mput t true []
  | n + 1 => nextM l (itM l t n)
def reachB (l : List Row) (t : A8_Int) : Nat → A8_Int → Bool
  | 0, s => decide (s = t)
  | n + 1, s => l.any fun r => decide (r.South = s) && reachB l t n r.North
theorem itM_get (l : List Row) (t : A8_Int) : ∀ (n : Nat) (s : A8_Int), mget s false (itM l t n) = reachB l t n s
  | 0, s => by
    simp only [itM, mput, mget, reachB]
    by_cases h : s = t <;> simp [h]
  | n + 1, s => by
    simp only [itM, nextM, reachB]
    rw [mget_marks (key := fun r : Row => r.South) (c := fun r => mget r.North false (itM l t n))]
    simp only [mget, Bool.false_or]
    congr 1
    funext r
    rw [itM_get l t n]
def backS (l : List Row) (t : A8_Int) (n : Nat) : List (Option (List (A8_Int × Bool))) := (List.range (n + 1)).map fun i => some (itM l t i)
theorem back_eq (l : List Row) (t : A8_Int) (n : Nat) (hl : l.length ≤ 1000000) (hn : n ≤ 1000) {k : Nat} (hk : l.length + n + 10 < k) : torus_back k l t (n : Int) = some (backS l t n) := by
  have hl1 : ∀ (m : List (A8_Int × Bool)) {k : Nat}, l.length < k → torus_back.l1 k [] 0 l m = some (nextM l m) := fun m k hk => by
    have := loop_list (F := fun k i (s : List (A8_Int × Bool)) => torus_back.l1 k s i l m) l (fun acc r => if mget r.North false m = true then mput r.South true acc else acc) 0 (fun _ _ => True) id (fun k i s h _ _ => by
      have hwi : w64 ((i : Int) + 1) = ((i + 1 : Nat) : Int) := by rw [w64_id (by omega) (by omega)]; rfl
      refine ⟨?_, trivial⟩
      show torus_back.l1 (k + 1) s i l m = _
      rw [torus_back.l1, if_pos (by simpa using h), if_pos (by omega), rdD_get h, hwi]
      cases hb : mget l[i].North false m <;> simp) (fun k s _ => by
      show torus_back.l1 (k + 1) s l.length l m = _
      rw [torus_back.l1, if_neg (by simp)]; rfl) [] trivial k (by omega)
    exact this
  have key : ∀ d i k, i + d = n → d + l.length + 5 < k → torus_back.l0 k (backS l t i) (i : Int) l (n : Int) = some (backS l t n) := by
    intro d
    induction d with
    | zero =>
      intro i k hi hk
      obtain ⟨k, rfl⟩ : ∃ m, k = m + 1 := ⟨k - 1, by omega⟩
      have : i = n := by omega
      subst this
      rw [torus_back.l0, if_neg (by simp)]
    | succ d ih =>
      intro i k hi hk
      obtain ⟨k, rfl⟩ : ∃ m, k = m + 1 := ⟨k - 1, by omega⟩
      have hbl : (backS l t i).length = i + 1 := by simp [backS]
      have hw : w64 (((backS l t i).length : Int) - 1) = (i : Int) := by rw [hbl, w64_id (by omega) (by omega)]; omega
      have hwi : w64 ((i : Int) + 1) = ((i + 1 : Nat) : Int) := by rw [w64_id (by omega) (by omega)]; rfl
      have hg : rdD (backS l t i) (i : Int) none = some (itM l t i) := by
        rw [rdD_get (by rw [hbl]; omega)]; simp [backS]
      rw [torus_back.l0, if_pos (by simp; omega), hw, if_pos (by rw [hbl]; omega), hg, Option.bind_some, hl1 _ (by omega), Option.bind_some, if_pos (by rw [hbl]; omega), hwi]
      have e : backS l t i ++ [some (nextM l (itM l t i))] = backS l t (i + 1) := by
        unfold backS; rw [map_succ _ (i + 1)]; rfl
      rw [e]
      exact ih (i + 1) k (by omega) (by omega)
  have := key n 0 k (by omega) (by omega)
  unfold torus_back
  have h0 : torus_back.l0 k [some (mput t true [])] 0 l (n : Int) = _ := this
  rw [h0]; rfl
def walkT (l : List Row) (t : A8_Int) : Nat → A8_Int → List Row
  | 0, _ => []
  | m + 1, s => match l.find? (fun r => decide (r.South = s) && reachB l t m r.North) with
    | none => walkT l t m s
    | some r => r :: walkT l t m r.North
def cellsR (l : List Row) : List Int := l.flatMap (·.Cells)
theorem find_l2 (l : List Row) (t : A8_Int) (n m : Nat) (hm : m ≤ n) (hl : l.length ≤ 1000000) (hn : n ≤ 1000) (hC : ∀ r ∈ l, r.Cells.length ≤ 8) (kn : List (A8_Int × List (Option (List (A8_Int × Bool))))) (cells : List Int) (s : A8_Int) (hc : cells.length ≤ 1000000) {k : Nat} (hk : l.length < k) :
    torus_find.l2 k 0 l (kn, backS l t n) cells s (m : Int) = some (match l.find? (fun r => decide (r.South = s) && reachB l t m r.North) with
      | none => (cells, s)
      | some r => (cells ++ r.Cells, r.North)) := by
  have hbl : (backS l t n).length = n + 1 := by simp [backS]
  have hg : rdD (backS l t n) (m : Int) none = some (itM l t m) := by rw [rdD_get (by rw [hbl]; omega)]; simp [backS]
  have key : ∀ d i k, i + d = l.length → d < k → torus_find.l2 k (i : Int) l (kn, backS l t n) cells s (m : Int) = some (match (l.drop i).find? (fun r => decide (r.South = s) && reachB l t m r.North) with
      | none => (cells, s)
      | some r => (cells ++ r.Cells, r.North)) := by
    intro d
    induction d with
    | zero =>
      intro i k hi hk
      obtain ⟨k, rfl⟩ : ∃ m, k = m + 1 := ⟨k - 1, by omega⟩
      have : i = l.length := by omega
      subst this
      rw [torus_find.l2, if_neg (by simp), List.drop_length]; rfl
    | succ d ih =>
      intro i k hi hk
      obtain ⟨k, rfl⟩ : ∃ m, k = m + 1 := ⟨k - 1, by omega⟩
      have hlt : i < l.length := by omega
      have hwi : w64 ((i : Int) + 1) = ((i + 1 : Nat) : Int) := by rw [w64_id (by omega) (by omega)]; rfl
      rw [torus_find.l2, if_pos (by simpa using hlt), if_pos (by omega), rdD_get hlt, hwi, word_beq, hg, if_pos (show 0 ≤ (m : Int) ∧ (m : Int) < ((backS l t n).length : Int) by rw [hbl]; omega), Option.bind_some, itM_get, List.drop_eq_getElem_cons hlt, List.find?_cons]
      have hCi := hC l[i] (List.getElem_mem _)
      have e1 : (if decide (l[i].South = s) = true then some (reachB l t m l[i].North) else some false) = some (decide (l[i].South = s) && reachB l t m l[i].North) := by cases decide (l[i].South = s) <;> rfl
      rw [e1, Option.bind_some]
      cases decide (l[i].South = s) && reachB l t m l[i].North
      · simp only [Bool.false_eq_true, if_false]
        exact ih (i + 1) k (by omega) (by omega)
      · simp only [if_true]; rw [if_pos (by omega)]
  have := key l.length 0 k (by omega) hk
  simpa using this
theorem find_l1 (l : List Row) (t : A8_Int) (n : Nat) (hl : l.length ≤ 1000000) (hn : n ≤ 1000) (hC : ∀ r ∈ l, r.Cells.length ≤ 8) (kn : List (A8_Int × List (Option (List (A8_Int × Bool))))) : ∀ (m : Nat) (cells : List Int) (s : A8_Int) (k : Nat), m ≤ n + 1 → cells.length + 8 * m ≤ 1000000 → m + l.length + 1 < k →
    torus_find.l1 k cells s ((m : Int) - 1) l (kn, backS l t n) = some (cells ++ cellsR (walkT l t m s)) := by
  intro m
  induction m with
  | zero =>
    intro cells s k _ hc hk
    obtain ⟨k, rfl⟩ : ∃ m, k = m + 1 := ⟨k - 1, by omega⟩
    rw [torus_find.l1, if_neg (by simp)]; simp [walkT, cellsR]
  | succ m ih =>
    intro cells s k hm hc hk
    obtain ⟨k, rfl⟩ : ∃ m, k = m + 1 := ⟨k - 1, by omega⟩
    have e1 : (((m + 1 : Nat) : Int) - 1) = (m : Int) := by omega
    have hw : w64 ((m : Int) - 1) = (m : Int) - 1 := w64_id (by omega) (by omega)
    rw [e1, torus_find.l1, if_pos (by simp), find_l2 l t n m (by omega) hl hn hC kn cells s (by omega) (by omega), Option.bind_some, walkT, hw]
    cases hf : l.find? (fun r => decide (r.South = s) && reachB l t m r.North) with
    | none => exact ih cells s k (by omega) (by omega) (by omega)
    | some r =>
      have hCr := hC r (List.mem_of_find?_eq_some hf)
      simp only
      rw [ih (cells ++ r.Cells) r.North k (by omega) (by rw [List.length_append]; omega) (by omega)]
      simp [cellsR]
def findS (l : List Row) (h : Nat) : Option (List Row) := (l.find? fun f => reachB l f.South (h - 1) f.North).map fun f => f :: walkT l f.South (h - 1) f.North
def KnownOK (l : List Row) (h : Nat) (kn : List (A8_Int × List (Option (List (A8_Int × Bool))))) : Prop := ∀ s, mhas s kn = true → mget s [] kn = backS l s (h - 1)
theorem mhas_mput {κ ν : Type} [DecidableEq κ] (x y : κ) (v : ν) : ∀ l : List (κ × ν), mhas x (mput y v l) = (decide (x = y) || mhas x l)
  | [] => by simp [mput, mhas]
  | p :: r => by
    simp only [mput]
    by_cases h : y = p.1
    · rw [if_pos h]
      simp only [mhas]
      by_cases hx : x = y
      · simp [hx]
      · have : ¬ x = p.1 := fun e => hx (e.trans h.symm)
        simp [hx, this]
    · rw [if_neg h]
      simp only [mhas]
      by_cases hx : x = p.1
      · simp [hx]
      · rw [if_neg hx, if_neg hx]; exact mhas_mput x y v r
theorem find_l0 (l : List Row) (w h : Nat) (h1 : 1 ≤ h) (hh : h ≤ 100) (hl : l.length ≤ 1000000) (hC : ∀ r ∈ l, r.Cells.length ≤ 8) : ∀ (d i : Nat) (kn : List (A8_Int × List (Option (List (A8_Int × Bool))))) (k : Nat), i + d = l.length → KnownOK l h kn → d + l.length + h + 20 < k →
    torus_find.l0 k kn (i : Int) (w : Int) (h : Int) l = some (match (l.drop i).find? (fun f => reachB l f.South (h - 1) f.North) with
      | none => .inr ()
      | some f => .inl (⟨w, h, cellsR (f :: walkT l f.South (h - 1) f.North)⟩, true)) := by
  have hw1 : w64 ((h : Int) - 1) = ((h - 1 : Nat) : Int) := by rw [w64_id (by omega) (by omega)]; omega
  have hw2 : w64 ((h : Int) - 2) = ((h - 1 : Nat) : Int) - 1 := by rw [w64_id (by omega) (by omega)]; omega
  intro d
  induction d with
  | zero =>
    intro i kn k hi hkn hk
    obtain ⟨k, rfl⟩ : ∃ m, k = m + 1 := ⟨k - 1, by omega⟩
    have : i = l.length := by omega
    subst this
    rw [torus_find.l0, if_neg (by simp), List.drop_length]; rfl
  | succ d ih =>
    intro i kn k hi hkn hk
    obtain ⟨k, rfl⟩ : ∃ m, k = m + 1 := ⟨k - 1, by omega⟩
    have hlt : i < l.length := by omega
    have hwi : w64 ((i : Int) + 1) = ((i + 1 : Nat) : Int) := by rw [w64_id (by omega) (by omega)]; rfl
    have hCi := hC l[i] (List.getElem_mem _)
    have hbl : (backS l l[i].South (h - 1)).length = h := by simp [backS]; omega
    have hg : rdD (backS l l[i].South (h - 1)) ((h - 1 : Nat) : Int) none = some (itM l l[i].South (h - 1)) := by rw [rdD_get (by rw [hbl]; omega)]; simp [backS]
    have hkn' : ∃ kn', KnownOK l h kn' ∧ (if (!(mhas l[i].South kn)) = true then ((torus_back k l l[i].South (w64 ((h : Int) - 1))).bind fun t => some (mput l[i].South t kn, t)) else (some (kn, (mget l[i].South [] kn)))) = some (kn', backS l l[i].South (h - 1)) := by
      cases hm : mhas l[i].South kn
      · refine ⟨mput l[i].South (backS l l[i].South (h - 1)) kn, fun s hs => ?_, ?_⟩
        · rw [mget_mput]
          by_cases hx : s = l[i].South
          · rw [if_pos hx, hx]
          · rw [if_neg hx]
            rw [mhas_mput] at hs
            simp [hx] at hs
            exact hkn s hs
        · rw [if_pos (by simp), hw1, back_eq l l[i].South (h - 1) hl (by omega) (by omega)]; rfl
      · exact ⟨kn, hkn, by rw [if_neg (by simp), hkn _ hm]⟩
    obtain ⟨kn', hk1, hk2⟩ := hkn'
    rw [torus_find.l0, if_pos (by simpa using hlt), if_pos (by omega), rdD_get hlt, hk2, Option.bind_some, hw1, hw2]
    simp only
    rw [if_pos (by rw [hbl]; omega), hg, Option.bind_some, itM_get, List.drop_eq_getElem_cons hlt, List.find?_cons, hwi]
    cases hr : reachB l l[i].South (h - 1) l[i].North
    · simp only [Bool.not_false, if_true, Bool.false_eq_true, if_false]
      exact ih (i + 1) kn' k (by omega) hk1 (by omega)
    · rw [if_neg (by simp), if_pos (by simp; omega), find_l1 l l[i].South (h - 1) hl (by omega) hC kn' (h - 1) _ _ k (by omega) (by simp; omega) (by omega)]
      simp [cellsR]
theorem find_eq (set : List Tile) (w h : Nat) (hw : 1 ≤ w ∧ w ≤ 8) (hh : 1 ≤ h ∧ h ≤ 100) (hl : set.length ≤ 1000) (hf : set.length ^ w ≤ 100000) {k : Nat} (hk : 300000 < k) : torus_find k set w h = some (match findS (ringL set w) h with
    | none => (p0P, false)
    | some l => (⟨w, h, cellsR l⟩, true)) := by
  have hR := allR_len set w
  have hrl : (ringL set w).length ≤ set.length ^ w := Nat.le_trans (List.length_filter_le _ _) hR
  have hC : ∀ r ∈ ringL set w, r.Cells.length ≤ 8 := by
    intro r hr
    unfold ringL at hr
    rw [List.mem_filter] at hr
    obtain ⟨c, hc, rfl⟩ := (mem_allR set w r).1 hr.1
    have := hc.len
    simp [mkR, cz]; omega
  unfold torus_find
  rw [rings_eq set w hw.1 hw.2 (by omega) (by omega) (by omega), Option.bind_some]
  have := find_l0 (ringL set w) w h hh.1 hh.2 (by omega) hC (ringL set w).length 0 [] k (by omega) (fun s hs => by cases hs) (by omega)
  have h0 : torus_find.l0 k [] 0 (w : Int) (h : Int) (ringL set w) = _ := this
  rw [h0, Option.bind_some, List.drop_zero]
  unfold findS
  cases (ringL set w).find? (fun f => reachB (ringL set w) f.South (h - 1) f.North) <;> rfl
end Gp
set_option linter.unusedVariables false
set_option linter.unusedSimpArgs false
namespace Gp
open Gw Gq
structure TorF (set : List Tile) (w h : Nat) (f : Nat → List Nat) : Prop where
  fill : Fill set w h f
  ring : ∀ y, y < h → (tat set ((f y).getD (w - 1) 0)).E = (tat set ((f y).getD 0 0)).W
  top : sideN set (f (h - 1)) = sideS set (f 0)
theorem walk_path (l : List Row) (t : A8_Int) : ∀ (m : Nat) (s : A8_Int), reachB l t m s = true → (walkT l t m s).length = m ∧ (∀ r ∈ walkT l t m s, r ∈ l) ∧ ∃ b : Nat → A8_Int, b 0 = s ∧ b m = t ∧ ∀ j, j < m → ((walkT l t m s).getD j z_Row).South = b j ∧ ((walkT l t m s).getD j z_Row).North = b (j + 1)
  | 0, s, h => by
    simp only [reachB, decide_eq_true_eq] at h
    subst h
    exact ⟨rfl, fun r hr => by simp [walkT] at hr, fun _ => s, rfl, rfl, fun j hj => by omega⟩
  | m + 1, s, h => by
    rw [reachB, List.any_eq_true] at h
    obtain ⟨r0, hr0, h0⟩ := h
    cases hf : l.find? (fun r => decide (r.South = s) && reachB l t m r.North) with
    | none =>
      rw [List.find?_eq_none] at hf
      exact absurd h0 (hf r0 hr0)
    | some r =>
      have hp := List.find?_some hf
      have hm := List.mem_of_find?_eq_some hf
      simp only [Bool.and_eq_true, decide_eq_true_eq] at hp
      obtain ⟨h1, h2, b, b0, bm, hb⟩ := walk_path l t m r.North hp.2
      have e : walkT l t (m + 1) s = r :: walkT l t m r.North := by rw [walkT, hf]
      rw [e]
      refine ⟨by simp [h1], fun q hq => ?_, fun j => if j = 0 then s else b (j - 1), rfl, by simpa using bm, fun j hj => ?_⟩
      · rcases List.mem_cons.1 hq with rfl | hq
        · exact hm
        · exact h2 q hq
      · cases j with
        | zero => exact ⟨by simpa using hp.1, by simpa using b0.symm⟩
        | succ j => simpa using hb j (by omega)
theorem reach_of_path (l : List Row) : ∀ (m : Nat) (b : Nat → A8_Int), (∀ j, j < m → ∃ r ∈ l, r.South = b j ∧ r.North = b (j + 1)) → reachB l (b m) m (b 0) = true
  | 0, b, _ => by simp [reachB]
  | m + 1, b, h => by
    rw [reachB, List.any_eq_true]
    obtain ⟨r, hr, h1, h2⟩ := h 0 (by omega)
    refine ⟨r, hr, ?_⟩
    have := reach_of_path l m (fun j => b (j + 1)) (fun j hj => h (j + 1) (by omega))
    rw [Bool.and_eq_true, decide_eq_true_eq, h2]
    exact ⟨h1, this⟩
theorem mem_ringL (set : List Tile) {w : Nat} (h1 : 1 ≤ w) (r : Row) : r ∈ ringL set w ↔ ∃ c, RowOK set w c ∧ (tat set (c.getD (w - 1) 0)).E = (tat set (c.getD 0 0)).W ∧ r = mkR set c := by
  unfold ringL
  rw [List.mem_filter, mem_allR]
  have key : ∀ c, RowOK set w c → ((mkR set c).West == (mkR set c).East) = decide ((tat set (c.getD (w - 1) 0)).E = (tat set (c.getD 0 0)).W) := fun c hc => by
    have hl := hc.len
    have e1 : c.headD 0 = c.getD 0 0 := by cases c <;> rfl
    have e2 : c.getLastD 0 = c.getD (w - 1) 0 := by
      have hn : c ≠ [] := by intro e; rw [e] at hl; simp at hl; omega
      rw [List.getLastD_eq_getLast?, List.getLast?_eq_some_getLast hn, Option.getD_some, List.getLast_eq_getElem]
      simp [hl, List.getElem?_eq_getElem (show w - 1 < c.length by omega)]
    show ((tat set (c.headD 0)).W == (tat set (c.getLastD 0)).E) = _
    rw [e1, e2, Bool.eq_iff_iff]
    simp only [beq_iff_eq, decide_eq_true_eq]
    exact eq_comm
  constructor
  · rintro ⟨⟨c, hc, rfl⟩, h⟩
    rw [key c hc, decide_eq_true_eq] at h
    exact ⟨c, hc, h, rfl⟩
  · rintro ⟨c, hc, h, rfl⟩
    exact ⟨⟨c, hc, rfl⟩, by rw [key c hc]; exact decide_eq_true h⟩
theorem word_sides {set : List Tile} {w : Nat} (hw : w ≤ 8) {c d : List Nat} (hc : c.length = w) (hd : d.length = w) : (mkR set c).North = (mkR set d).South ↔ sideN set c = sideS set d := by
  rw [← mkR_sides hw hc hd]; exact eq_comm
theorem find_none {set : List Tile} {w h : Nat} (hw : 1 ≤ w ∧ w ≤ 8) (hh : 1 ≤ h) (hn : findS (ringL set w) h = none) (f : Nat → List Nat) : ¬ TorF set w h f := by
  intro hf
  unfold findS at hn
  rw [Option.map_eq_none_iff, List.find?_eq_none] at hn
  have hmem : ∀ y, y < h → mkR set (f y) ∈ ringL set w := fun y hy => (mem_ringL set hw.1 _).2 ⟨_, hf.fill.row y hy, hf.ring y hy, rfl⟩
  have hlen : ∀ y, y < h → (f y).length = w := fun y hy => (hf.fill.row y hy).len
  have := hn _ (hmem 0 (by omega))
  apply this
  have hb := reach_of_path (ringL set w) (h - 1) (fun j => (mkR set (f j)).North) (fun j hj => ⟨mkR set (f (j + 1)), hmem (j + 1) (by omega), ((word_sides hw.2 (hlen j (by omega)) (hlen (j + 1) (by omega))).2 (hf.fill.up j (by omega))).symm, rfl⟩)
  have ht : (mkR set (f (h - 1))).North = (mkR set (f 0)).South := (word_sides hw.2 (hlen _ (by omega)) (hlen 0 (by omega))).2 hf.top
  have hb' : reachB (ringL set w) (mkR set (f (h - 1))).North (h - 1) (mkR set (f 0)).North = true := hb
  rw [ht] at hb'
  exact hb'
theorem find_some {set : List Tile} {w h : Nat} (hw : 1 ≤ w ∧ w ≤ 8) (hh : 1 ≤ h) {l : List Row} (hn : findS (ringL set w) h = some l) : ∃ f, TorF set w h f ∧ (⟨w, h, cellsR l⟩ : Pattern) = patR w h f := by
  unfold findS at hn
  rw [Option.map_eq_some_iff] at hn
  obtain ⟨r0, hf, rfl⟩ := hn
  have hp := List.find?_some hf
  have hm := List.mem_of_find?_eq_some hf
  obtain ⟨h1, h2, b, b0, bm, hb⟩ := walk_path _ _ _ _ hp
  obtain ⟨L, hL⟩ : ∃ L, r0 :: walkT (ringL set w) r0.South (h - 1) r0.North = L := ⟨_, rfl⟩
  have hlen : L.length = h := by rw [← hL]; simp [h1]; omega
  have hLm : ∀ r ∈ L, r ∈ ringL set w := by
    rw [← hL]; intro r hr
    rcases List.mem_cons.1 hr with rfl | hr
    · exact hm
    · exact h2 r hr
  have hex : ∀ y, ∃ c, y < h → RowOK set w c ∧ (tat set (c.getD (w - 1) 0)).E = (tat set (c.getD 0 0)).W ∧ L.getD y z_Row = mkR set c := fun y => by
    by_cases hy : y < h
    · have : L.getD y z_Row ∈ ringL set w := by
        rw [List.getD_eq_getElem?_getD, List.getElem?_eq_getElem (by omega)]; exact hLm _ (List.getElem_mem _)
      obtain ⟨c, h1, h2, h3⟩ := (mem_ringL set hw.1 _).1 this
      exact ⟨c, fun _ => ⟨h1, h2, h3⟩⟩
    · exact ⟨[], fun h => absurd h hy⟩
  obtain ⟨f, hfy⟩ : ∃ f : Nat → List Nat, ∀ y, y < h → RowOK set w (f y) ∧ (tat set ((f y).getD (w - 1) 0)).E = (tat set ((f y).getD 0 0)).W ∧ L.getD y z_Row = mkR set (f y) := ⟨fun y => Classical.choose (hex y), fun y => Classical.choose_spec (hex y)⟩
  -- the words between the rows
  have hwd : ∀ j, j < h → (L.getD j z_Row).North = b j ∧ (j + 1 < h → (L.getD (j + 1) z_Row).South = b j) := fun j hj => by
    constructor
    · cases j with
      | zero => rw [← hL]; exact b0.symm
      | succ j =>
        have := (hb j (by omega)).2
        rw [← hL]; simpa using this
    · intro hj1
      have := (hb j (by omega)).1
      rw [← hL]; simpa using this
  refine ⟨f, ⟨⟨fun y hy => (hfy y hy).1, fun y hy => ?_⟩, fun y hy => (hfy y hy).2.1, ?_⟩, ?_⟩
  · have e1 := (hwd y (by omega)).1
    have e2 := (hwd y (by omega)).2 hy
    rw [(hfy y (by omega)).2.2] at e1
    rw [(hfy (y + 1) hy).2.2] at e2
    exact (word_sides hw.2 (hfy y (by omega)).1.len (hfy (y + 1) hy).1.len).1 (e1.trans e2.symm)
  · have e1 := (hwd (h - 1) (by omega)).1
    rw [(hfy (h - 1) (by omega)).2.2, bm] at e1
    have e2 : L.getD 0 z_Row = r0 := by rw [← hL]; rfl
    rw [← e2, (hfy 0 (by omega)).2.2] at e1
    exact (word_sides hw.2 (hfy (h - 1) (by omega)).1.len (hfy 0 (by omega)).1.len).1 e1
  · unfold patR
    congr 1
    unfold cellsR
    have : L = (List.range h).map fun y => L.getD y z_Row := by
      apply List.ext_getElem
      · simp [hlen]
      · intro n a b'; simp [List.getElem?_eq_getElem a]
    rw [hL, this, List.flatMap_map]
    have key : ∀ M : List Nat, (∀ y ∈ M, y < h) → (M.flatMap fun y => (L.getD y z_Row).Cells) = M.flatMap fun y => cz (f y) := by
      intro M
      induction M with
      | nil => intro _; rfl
      | cons y M ih =>
        intro hM
        rw [List.flatMap_cons, List.flatMap_cons, ih (fun z hz => hM z (by simp [hz])), (hfy y (hM y (by simp))).2.2]; rfl
    exact key (List.range h) (fun y hy => List.mem_range.1 hy)
/-! tori and patterns -/
def repF (w h : Nat) (f : Nat → List Nat) (n : Nat) (y : Nat) : List Nat := (List.range n).map fun x => (f (y % h)).getD (x % w) 0
theorem tor_fill {set : List Tile} {w h : Nat} {f : Nat → List Nat} (hf : TorF set w h f) (hw : 1 ≤ w) (hh : 1 ≤ h) (n m : Nat) : Fill set n m (repF w h f n) := by
  have hg : ∀ y x, x < n → (repF w h f n y).getD x 0 = (f (y % h)).getD (x % w) 0 := fun y x hx => by simp [repF, List.getElem?_map, List.getElem?_range hx]
  have hmod : ∀ a b, 1 ≤ b → a % b < b := fun a b hb => Nat.mod_lt _ (by omega)
  have hsucc : ∀ a b, 1 ≤ b → (a + 1) % b = if a % b + 1 = b then 0 else a % b + 1 := fun a b hb => by
    have h1 := hmod a b hb
    rw [Nat.add_mod]
    by_cases hb1 : b = 1
    · subst hb1; simp [Nat.mod_one]
    · rw [Nat.mod_eq_of_lt (show 1 < b by omega)]
      split
      · rename_i e; rw [e, Nat.mod_self]
      · rename_i e; rw [Nat.mod_eq_of_lt (by omega)]
  refine ⟨fun y hy => ⟨by simp [repF], fun x hx => ?_, fun x hx => ?_⟩, fun y hy => ?_⟩
  · rw [hg y x hx]; exact (hf.fill.row _ (hmod y h hh)).lt _ (hmod x w hw)
  · rw [hg y x (by omega), hg y (x + 1) hx, hsucc x w hw]
    split
    · rename_i e
      have := hf.ring _ (hmod y h hh)
      rw [show w - 1 = x % w by omega] at this
      exact this
    · rename_i e
      exact (hf.fill.row _ (hmod y h hh)).adj _ (by have := hmod x w hw; omega)
  · have hup : sideN set (f (y % h)) = sideS set (f ((y + 1) % h)) := by
      rw [hsucc y h hh]
      split
      · rename_i e; have := hf.top; rwa [show h - 1 = y % h by omega] at this
      · rename_i e; exact hf.fill.up _ (by have := hmod y h hh; omega)
    apply List.ext_getElem
    · simp [sideN, sideS, repF]
    · intro x h1 h2
      simp only [sideN, sideS, repF, List.getElem_map, List.getElem_range]
      have hx := hmod x w hw
      have l1 := (hf.fill.row (y % h) (hmod y h hh)).len
      have l2 := (hf.fill.row ((y + 1) % h) (hmod (y + 1) h hh)).len
      have h3 := congrArg (fun l => l.getD (x % w) 0) hup
      simp only [sideN, sideS, List.getD_eq_getElem?_getD, List.getElem?_map, List.getElem?_eq_getElem (show x % w < (f (y % h)).length by omega), List.getElem?_eq_getElem (show x % w < (f ((y + 1) % h)).length by omega), Option.map_some, Option.getD_some] at h3 ⊢
      exact h3
theorem fill_sub {set : List Tile} {w h : Nat} {f : Nat → List Nat} (hf : Fill set w h f) {w' h' : Nat} (hw : w' ≤ w) (hh : h' ≤ h) : Fill set w' h' (fun y => (f y).take w') := by
  have hg : ∀ y x, x < w' → ((f y).take w').getD x 0 = (f y).getD x 0 := fun y x hx => by simp [List.getElem?_take, hx]
  refine ⟨fun y hy => ⟨?_, fun x hx => ?_, fun x hx => ?_⟩, fun y hy => ?_⟩
  · rw [List.length_take, (hf.row y (by omega)).len]; omega
  · rw [hg y x hx]; exact (hf.row y (by omega)).lt x (by omega)
  · rw [hg y x (by omega), hg y (x + 1) hx]; exact (hf.row y (by omega)).adj x (by omega)
  · have := hf.up y (by omega)
    unfold sideN sideS at this ⊢
    rw [List.map_take, List.map_take, this]
end Gp
set_option linter.unusedVariables false
set_option linter.unusedSimpArgs false
namespace Gp
open Gw Gq
def sqE (set : List Tile) (n : Int) : Bool × Int := if 1 ≤ n ∧ n ≤ 8 then (if fewB set.length n.toNat = true then (fillB set n.toNat, 0) else (false, 4)) else (false, 2)
theorem exists_val {set : List Tile} (hv : validT set = true) (n : Int) {k : Nat} (hk : 10000 < k) : square_Exists k set n = some (sqE set n) := by
  have h8 := valid_len hv
  obtain ⟨b1, b2, b3⟩ := exists_bad set n (by omega) hk
  unfold sqE
  by_cases hn : 1 ≤ n ∧ n ≤ 8
  · rw [if_pos hn]
    cases hf : fewB set.length n.toNat
    · rw [if_neg (by simp)]; exact b3 hv hn hf
    · rw [if_pos rfl]
      obtain ⟨m, rfl⟩ : ∃ m : Nat, n = m := ⟨n.toNat, by omega⟩
      rw [Int.toNat_natCast] at hf ⊢
      exact exists_ok set m hv (by omega) (by omega) hf hk
  · rw [if_neg hn]; exact b2 hv hn
theorem fillB_of_tor {set : List Tile} {w h : Nat} {f : Nat → List Nat} (hf : TorF set w h f) (hw : 1 ≤ w) (hh : 1 ≤ h) {n : Nat} (h1 : 1 ≤ n) (h8 : n ≤ 8) : fillB set n = true := (fillB_iff set h1 h8).2 ⟨_, tor_fill hf hw hh n n⟩
end Gp
set_option linter.unusedVariables false
set_option linter.unusedSimpArgs false
namespace Gp
open Gw Gq
/-! ### three tiles: a torus, or no square of side four -/
def difL : List Nat := [0, 1, 2, 3, 4, 5, 6, 7, 8, 9, 10, 12, 14, 16, 17, 18, 20, 21, 24, 27, 28, 32, 33, 34, 35, 36, 40, 42, 45, 48, 49, 54, 56, 63, 64, 65, 66, 68, 70, 72, 73, 74, 76, 78, 80, 81, 82, 84, 96, 97, 98, 100, 112, 113, 118, 128, 129, 130, 132, 133, 136, 137, 138, 140, 144, 145, 146, 148, 149, 160, 161, 162, 164, 168, 170, 173, 192, 195, 196, 216, 219, 220, 224, 227, 228, 256, 257, 258, 259, 260, 264, 265, 266, 268, 272, 273, 274, 276, 280, 283, 284, 288, 289, 290, 291, 292, 320, 322, 325, 336, 338, 341, 360, 362, 365, 384, 385, 390, 392, 393, 398, 432, 433, 438, 448, 455, 504, 511]
def torL : List (Nat × Nat × List (List Nat)) := [(1, 1, [[0]]), (10, 10, [[0, 1], [1, 0]]), (10, 17, [[0], [1]]), (16, 16, [[1]]), (17, 10, [[0, 1]]), (68, 68, [[0, 2], [2, 0]]), (68, 257, [[0], [2]]), (78, 161, [[0, 0], [1, 2]]), (84, 170, [[0, 1], [2, 1]]), (98, 98, [[0, 1, 2], [1, 2, 0], [2, 0, 1]]), (98, 140, [[0, 2, 1], [1, 0, 2], [2, 1, 0]]), (98, 273, [[0], [1], [2]]), (140, 98, [[0, 1, 2], [2, 0, 1], [1, 2, 0]]), (140, 140, [[0, 2, 1], [2, 1, 0], [1, 0, 2]]), (140, 273, [[0], [2], [1]]), (160, 160, [[1, 2], [2, 1]]), (160, 272, [[1], [2]]), (161, 78, [[0, 1], [0, 2]]), (170, 84, [[0, 2], [1, 1]]), (228, 266, [[0, 1], [2, 2]]), (256, 256, [[2]]), (257, 68, [[0, 2]]), (266, 228, [[0, 2], [1, 2]]), (272, 160, [[1, 2]]), (273, 98, [[0, 1, 2]]), (273, 140, [[0, 2, 1]])]
def nonL : List (Nat × Nat × Nat × Nat) := [(79, 438, 2, 2), (510, 7, 2, 2), (7, 510, 2, 2), (438, 79, 2, 2), (484, 63, 2, 2), (292, 255, 2, 2), (186, 455, 2, 2), (178, 335, 2, 2), (0, 511, 1, 2), (486, 63, 2, 3), (422, 127, 2, 3), (146, 495, 2, 2), (294, 255, 2, 3), (6, 511, 1, 3), (495, 56, 2, 2), (510, 73, 2, 2), (365, 186, 2, 2), (11, 508, 2, 2), (73, 510, 2, 2), (492, 63, 2, 3), (300, 255, 2, 3), (186, 365, 2, 2), (40, 511, 1, 3), (26, 487, 2, 2), (11, 502, 2, 2), (26, 493, 2, 2), (62, 487, 2, 3), (79, 504, 2, 2), (190, 365, 2, 3), (77, 442, 2, 2), (44, 511, 1, 4), (495, 60, 3, 2), (47, 502, 2, 3), (62, 493, 2, 3), (47, 508, 2, 3), (255, 292, 2, 2), (255, 294, 3, 2), (255, 300, 3, 2), (63, 484, 2, 2), (63, 486, 3, 2), (191, 364, 3, 2), (63, 492, 3, 2), (502, 47, 3, 2), (54, 495, 2, 3), (508, 11, 2, 2), (56, 495, 2, 2), (508, 47, 3, 2), (60, 495, 2, 3), (487, 62, 3, 2), (39, 510, 2, 3), (38, 511, 1, 4), (493, 62, 3, 2), (45, 510, 2, 3), (484, 219, 2, 2), (210, 229, 2, 2), (324, 251, 2, 2), (324, 191, 2, 2), (250, 295, 3, 3), (242, 303, 3, 3), (72, 511, 1, 3), (255, 450, 3, 2), (251, 454, 3, 2), (487, 218, 3, 2), (195, 510, 2, 3), (486, 219, 2, 3), (454, 251, 2, 3), (454, 191, 2, 3), (194, 511, 1, 4), (69, 446, 2, 2), (69, 506, 2, 2), (71, 442, 2, 2), (103, 318, 3, 3), (111, 466, 3, 3), (199, 506, 2, 3), (199, 446, 2, 3), (510, 45, 3, 2), (251, 364, 3, 2), (75, 500, 2, 2), (218, 487, 2, 3), (203, 502, 2, 3), (510, 201, 3, 2), (95, 428, 3, 2), (218, 493, 2, 3), (203, 508, 2, 3), (365, 250, 3, 2), (364, 251, 2, 3), (510, 135, 3, 2), (364, 191, 2, 3), (111, 316, 3, 3), (109, 506, 2, 3), (109, 446, 2, 3), (510, 39, 3, 2), (510, 105, 3, 2), (95, 482, 3, 2), (510, 195, 3, 2), (500, 75, 2, 2), (504, 79, 2, 2), (470, 143, 3, 3), (210, 495, 2, 3), (219, 484, 2, 2), (84, 165, 2, 2), (214, 173, 3, 3), (214, 227, 3, 3), (86, 266, 2, 2), (255, 360, 3, 2), (214, 362, 3, 3), (127, 422, 3, 2), (214, 398, 3, 3), (99, 84, 2, 2), (105, 510, 2, 3), (104, 511, 1, 4), (498, 79, 2, 3), (495, 120, 3, 2), (486, 121, 3, 3), (367, 182, 3, 2), (358, 183, 3, 3), (359, 186, 2, 3), (127, 488, 3, 2), (123, 484, 2, 3), (250, 455, 2, 3), (250, 365, 2, 3), (242, 459, 3, 3), (111, 438, 2, 3), (111, 504, 2, 3), (125, 482, 3, 3), (125, 428, 3, 3), (114, 161, 2, 2), (120, 495, 2, 3), (502, 203, 3, 2), (118, 167, 3, 3), (118, 302, 3, 3), (191, 454, 3, 2), (135, 510, 2, 3), (190, 295, 3, 3), (134, 511, 1, 4), (428, 95, 2, 3), (488, 127, 2, 3), (493, 218, 3, 2), (492, 151, 3, 3), (461, 186, 2, 3), (492, 219, 2, 3), (141, 266, 2, 2), (200, 511, 1, 4), (201, 510, 2, 3), (428, 125, 3, 3), (156, 161, 2, 2), (223, 422, 3, 2), (159, 484, 2, 3), (207, 438, 2, 3), (207, 316, 3, 3), (143, 470, 3, 3), (190, 455, 2, 3), (255, 456, 3, 2), (190, 457, 3, 3), (207, 504, 2, 3), (183, 358, 3, 3), (183, 460, 3, 3), (215, 428, 3, 3), (150, 495, 2, 3), (416, 223, 2, 2), (176, 367, 2, 2), (176, 463, 2, 2), (165, 84, 2, 2), (167, 118, 3, 3), (161, 156, 2, 2), (167, 220, 3, 3), (163, 266, 2, 2), (167, 362, 3, 3), (167, 398, 3, 3), (422, 223, 2, 3), (187, 460, 3, 2), (233, 220, 3, 3), (169, 266, 2, 2), (233, 362, 3, 3), (233, 398, 3, 3), (495, 146, 2, 2), (495, 54, 3, 2), (495, 210, 3, 2), (187, 358, 3, 2), (495, 150, 3, 2), (495, 216, 3, 2), (173, 214, 3, 3), (173, 302, 3, 3), (508, 203, 3, 2), (216, 495, 2, 3), (219, 486, 3, 2), (219, 492, 3, 2), (220, 167, 3, 3), (223, 488, 3, 2), (220, 302, 3, 3), (227, 214, 3, 3), (227, 302, 3, 3), (485, 122, 3, 2), (485, 158, 3, 2), (255, 390, 3, 2), (303, 242, 3, 3), (295, 190, 3, 3), (303, 188, 3, 3), (442, 71, 2, 2), (442, 77, 2, 2), (266, 86, 2, 2), (318, 103, 3, 3), (302, 118, 3, 3), (266, 163, 2, 2), (302, 173, 3, 3), (446, 199, 3, 2), (302, 220, 3, 3), (302, 227, 3, 3), (511, 0, 2, 1), (511, 6, 3, 1), (511, 40, 3, 1), (511, 44, 4, 1), (511, 38, 4, 1), (511, 72, 3, 1), (511, 194, 4, 1), (511, 104, 4, 1), (511, 134, 4, 1), (511, 200, 4, 1), (318, 205, 3, 3), (316, 111, 3, 3), (448, 255, 2, 2), (330, 84, 2, 2), (474, 103, 3, 3), (450, 255, 2, 3), (506, 199, 3, 2), (360, 255, 2, 3), (506, 109, 3, 2), (362, 214, 3, 3), (362, 167, 3, 3), (367, 248, 3, 2), (365, 190, 3, 2), (463, 182, 3, 2), (455, 250, 3, 2), (390, 255, 2, 3), (459, 188, 3, 3), (394, 161, 2, 2), (458, 173, 3, 3), (488, 223, 2, 3), (459, 242, 3, 3), (458, 227, 3, 3), (456, 255, 2, 3), (446, 109, 3, 2), (398, 214, 3, 3), (398, 167, 3, 3), (463, 248, 3, 2), (438, 111, 3, 2), (438, 207, 3, 2), (455, 190, 3, 2), (504, 111, 3, 2), (504, 207, 3, 2)]
def sub9 (a m : Nat) : Bool := a &&& m == a
def dif9 (m : Nat) : Bool := (List.range 3).all fun i => (List.range 3).all fun j => (List.range 3).all fun k => (List.range 3).all fun l => !(m.testBit (3 * i + j) && m.testBit (3 * k + j) && m.testBit (3 * k + l)) || m.testBit (3 * i + l)
theorem difL_all : ((List.range 512).all fun m => !dif9 m || difL.contains m) = true := by decide +kernel
def cenOK : Bool := difL.all fun v => (fun (T U : List Nat) => difL.all fun h => T.any (fun b => sub9 b h) || U.any fun b => sub9 h b) ((torL.filter fun c => sub9 c.1 v).map fun c => c.2.1) ((nonL.filter fun c => sub9 v c.1).map fun c => c.2.1)
theorem cen_ok : cenOK = true := by decide +kernel
def goF (a b w : Nat) : Nat → List Nat → Bool
  | 0, _ => true
  | m + 1, l => [0, 1, 2].any fun c => (l.length % w == 0 || b.testBit (3 * l.getD 0 0 + c)) && ((decide (l.length < w)) || a.testBit (3 * l.getD (w - 1) 0 + c)) && goF a b w m (c :: l)
theorem non_ok : (nonL.all fun c => decide (1 ≤ c.2.2.1) && decide (c.2.2.1 ≤ 4) && decide (c.2.2.2 ≤ 4) && !goF c.1 c.2.1 c.2.2.1 (c.2.2.1 * c.2.2.2) []) = true := by decide +kernel
def torC (a b : Nat) (t : List (List Nat)) : Bool := decide (1 ≤ t.length ∧ t.length ≤ 3) && decide (1 ≤ (t.getD 0 []).length ∧ (t.getD 0 []).length ≤ 3) && (List.range t.length).all fun y => decide ((t.getD y []).length = (t.getD 0 []).length) && (List.range (t.getD 0 []).length).all fun x => decide ((t.getD y []).getD x 0 < 3) && a.testBit (3 * (t.getD y []).getD x 0 + (t.getD ((y + 1) % t.length) []).getD x 0) && b.testBit (3 * (t.getD y []).getD x 0 + (t.getD y []).getD ((x + 1) % (t.getD 0 []).length) 0)
theorem tor_ok : (torL.all fun c => torC c.1 c.2.1 c.2.2) = true := by decide +kernel
/-! masks of a set -/
def mk9 (g : Nat → Bool) : Nat := (g 0).toNat + 2 * (g 1).toNat + 4 * (g 2).toNat + 8 * (g 3).toNat + 16 * (g 4).toNat + 32 * (g 5).toNat + 64 * (g 6).toNat + 128 * (g 7).toNat + 256 * (g 8).toNat
theorem mk9_all : ∀ b0 b1 b2 b3 b4 b5 b6 b7 b8 : Bool, (fun m => decide (m < 512) && m.testBit 0 == b0 && m.testBit 1 == b1 && m.testBit 2 == b2 && m.testBit 3 == b3 && m.testBit 4 == b4 && m.testBit 5 == b5 && m.testBit 6 == b6 && m.testBit 7 == b7 && m.testBit 8 == b8) (b0.toNat + 2 * b1.toNat + 4 * b2.toNat + 8 * b3.toNat + 16 * b4.toNat + 32 * b5.toNat + 64 * b6.toNat + 128 * b7.toNat + 256 * b8.toNat) = true := by decide +kernel
theorem mk9_spec (g : Nat → Bool) : mk9 g < 512 ∧ ∀ k, k < 9 → (mk9 g).testBit k = g k := by
  have := mk9_all (g 0) (g 1) (g 2) (g 3) (g 4) (g 5) (g 6) (g 7) (g 8)
  simp only [Bool.and_eq_true, beq_iff_eq, decide_eq_true_eq] at this
  obtain ⟨⟨⟨⟨⟨⟨⟨⟨⟨h, h0⟩, h1⟩, h2⟩, h3⟩, h4⟩, h5⟩, h6⟩, h7⟩, h8⟩ := this
  refine ⟨h, fun k hk => ?_⟩
  have : k = 0 ∨ k = 1 ∨ k = 2 ∨ k = 3 ∨ k = 4 ∨ k = 5 ∨ k = 6 ∨ k = 7 ∨ k = 8 := by omega
  rcases this with rfl | rfl | rfl | rfl | rfl | rfl | rfl | rfl | rfl <;> assumption
def vR (set : List Tile) (i j : Nat) : Bool := decide (i < set.length ∧ j < set.length ∧ (tat set i).N = (tat set j).S)
def hR (set : List Tile) (i j : Nat) : Bool := decide (i < set.length ∧ j < set.length ∧ (tat set i).E = (tat set j).W)
def mkM (R : Nat → Nat → Bool) : Nat := mk9 fun k => R (k / 3) (k % 3)
theorem mkM_bit (R : Nat → Nat → Bool) {i j : Nat} (hi : i < 3) (hj : j < 3) : (mkM R).testBit (3 * i + j) = R i j := by
  unfold mkM
  rw [(mk9_spec _).2 _ (by omega), show (3 * i + j) / 3 = i by omega, show (3 * i + j) % 3 = j by omega]
theorem mkM_mem (R : Nat → Nat → Bool) (h : ∀ i j k l, R i j = true → R k j = true → R k l = true → R i l = true) : mkM R ∈ difL := by
  have h1 : mkM R < 512 := (mk9_spec _).1
  have h2 := List.all_eq_true.1 difL_all (mkM R) (List.mem_range.2 h1)
  have h3 : dif9 (mkM R) = true := by
    unfold dif9
    simp only [List.all_eq_true, List.mem_range]
    intro i hi j hj k hk l hl
    rw [mkM_bit R hi hj, mkM_bit R hk hj, mkM_bit R hk hl, mkM_bit R hi hl]
    cases h1 : R i j
    · rfl
    cases h2 : R k j
    · rfl
    cases h3 : R k l
    · rfl
    rw [h i j k l h1 h2 h3]; rfl
  rw [h3] at h2
  simpa using h2
theorem vR_mem (set : List Tile) : mkM (vR set) ∈ difL := mkM_mem _ fun i j k l h1 h2 h3 => by
  simp only [vR, decide_eq_true_eq] at *
  exact ⟨h1.1, h3.2.1, h1.2.2.trans (h2.2.2.symm.trans h3.2.2)⟩
theorem hR_mem (set : List Tile) : mkM (hR set) ∈ difL := mkM_mem _ fun i j k l h1 h2 h3 => by
  simp only [hR, decide_eq_true_eq] at *
  exact ⟨h1.1, h3.2.1, h1.2.2.trans (h2.2.2.symm.trans h3.2.2)⟩
theorem sub9_bit {a m : Nat} (h : sub9 a m = true) (k : Nat) (hk : a.testBit k = true) : m.testBit k = true := by
  unfold sub9 at h
  rw [beq_iff_eq] at h
  rw [← h, Nat.testBit_and, Bool.and_eq_true] at hk
  exact hk.2
theorem fill_up {set : List Tile} {w h : Nat} {f : Nat → List Nat} (hf : Fill set w h f) {x y : Nat} (hx : x < w) (hy : y + 1 < h) : (tat set ((f y).getD x 0)).N = (tat set ((f (y + 1)).getD x 0)).S := by
  have h3 := congrArg (fun l => l.getD x 0) (hf.up y hy)
  have l1 := (hf.row y (by omega)).len
  have l2 := (hf.row (y + 1) hy).len
  simp only [sideN, sideS, List.getD_eq_getElem?_getD, List.getElem?_map, List.getElem?_eq_getElem (show x < (f y).length by omega), List.getElem?_eq_getElem (show x < (f (y + 1)).length by omega), Option.map_some, Option.getD_some] at h3 ⊢
  exact h3
def pref (G : Nat → Nat) : Nat → List Nat
  | 0 => []
  | p + 1 => G p :: pref G p
theorem pref_len (G : Nat → Nat) : ∀ p, (pref G p).length = p
  | 0 => rfl
  | p + 1 => by rw [pref, List.length_cons, pref_len G p]
theorem pref_get (G : Nat → Nat) : ∀ p j, j < p → (pref G p).getD j 0 = G (p - 1 - j)
  | 0, j, h => by omega
  | p + 1, 0, h => rfl
  | p + 1, j + 1, h => by
    rw [pref, List.getD_cons_succ, pref_get G p j (by omega)]
    congr 1; omega
theorem goF_of {a b w N : Nat} {G : Nat → Nat} (hw : 1 ≤ w) (h3 : ∀ p, p < N → G p < 3) (hh : ∀ p, p < N → p % w ≠ 0 → b.testBit (3 * G (p - 1) + G p) = true) (hv : ∀ p, p < N → w ≤ p → a.testBit (3 * G (p - w) + G p) = true) : ∀ m p, p + m = N → goF a b w m (pref G p) = true
  | 0, p, _ => rfl
  | m + 1, p, e => by
    rw [goF, List.any_eq_true]
    refine ⟨G p, ?_, ?_⟩
    · have := h3 p (by omega)
      have : G p = 0 ∨ G p = 1 ∨ G p = 2 := by omega
      rcases this with h | h | h <;> simp [h]
    · rw [pref_len, Bool.and_eq_true, Bool.and_eq_true]
      refine ⟨⟨?_, ?_⟩, goF_of hw h3 hh hv m (p + 1) (by omega)⟩
      · by_cases hp : p % w = 0
        · rw [hp]; rfl
        · have p1 : 1 ≤ p := by
            rcases Nat.eq_zero_or_pos p with h0 | h0
            · rw [h0, Nat.zero_mod] at hp; exact absurd rfl hp
            · exact h0
          rw [pref_get G p 0 (by omega), show p - 1 - 0 = p - 1 by omega, hh p (by omega) hp, Bool.or_true]
      · by_cases hp : p < w
        · rw [decide_eq_true hp]; rfl
        · rw [pref_get G p (w - 1) (by omega), show p - 1 - (w - 1) = p - w by omega, hv p (by omega) (by omega), Bool.or_true]
theorem fill_goF {set : List Tile} (hl : set.length ≤ 3) {w h : Nat} {f : Nat → List Nat} (hf : Fill set w h f) (hw : 1 ≤ w) {a b : Nat} (ha : sub9 (mkM (vR set)) a = true) (hb : sub9 (mkM (hR set)) b = true) : goF a b w (w * h) [] = true := by
  have hdiv : ∀ p, p < w * h → p / w < h ∧ p % w < w := fun p hp => ⟨Nat.div_lt_of_lt_mul hp, Nat.mod_lt _ (by omega)⟩
  have hlt : ∀ p, p < w * h → (f (p / w)).getD (p % w) 0 < set.length := fun p hp => (hf.row _ (hdiv p hp).1).lt _ (hdiv p hp).2
  refine goF_of (N := w * h) (G := fun p => (f (p / w)).getD (p % w) 0) hw (fun p hp => ?_) (fun p hp hm => ?_) (fun p hp hwp => ?_) (w * h) 0 (by omega)
  · have := hlt p hp; omega
  · have e1 : (p - 1) / w = p / w ∧ (p - 1) % w = p % w - 1 := by
      have hd := Nat.div_add_mod p w
      have hq := (hdiv p hp).2
      have : p - 1 = (p % w - 1) + w * (p / w) := by omega
      rw [this]
      exact ⟨by rw [Nat.add_mul_div_left _ _ (by omega), Nat.div_eq_of_lt (by omega), Nat.zero_add], by rw [Nat.add_mul_mod_self_left, Nat.mod_eq_of_lt (by omega)]⟩
    have a1 := hlt (p - 1) (by omega)
    have a2 := hlt p hp
    apply sub9_bit hb
    rw [mkM_bit _ (by omega) (by omega)]
    simp only [hR, decide_eq_true_eq]
    refine ⟨a1, a2, ?_⟩
    rw [e1.1, e1.2]
    have := (hf.row _ (hdiv p hp).1).adj (p % w - 1) (by have := (hdiv p hp).2; omega)
    rwa [show p % w - 1 + 1 = p % w by omega] at this
  · have e1 : (p - w) / w = p / w - 1 ∧ (p - w) % w = p % w := ⟨by rw [Nat.div_eq_sub_div (by omega) hwp]; rfl, by rw [← Nat.mod_eq_sub_mod hwp]⟩
    have hq : 1 ≤ p / w := (Nat.le_div_iff_mul_le (by omega)).2 (by omega)
    have a1 := hlt (p - w) (by omega)
    have a2 := hlt p hp
    apply sub9_bit ha
    rw [mkM_bit _ (by omega) (by omega)]
    simp only [vR, decide_eq_true_eq]
    refine ⟨a1, a2, ?_⟩
    rw [e1.1, e1.2]
    have := fill_up hf (x := p % w) (y := p / w - 1) (hdiv p hp).2 (by have := (hdiv p hp).1; omega)
    rwa [show p / w - 1 + 1 = p / w by omega] at this
theorem vR_N {set : List Tile} {i j : Nat} (h : vR set i j = true) : i < set.length ∧ (tat set i).N = (tat set j).S := by
  simp only [vR, decide_eq_true_eq] at h; exact ⟨h.1, h.2.2⟩
theorem hR_E {set : List Tile} {i j : Nat} (h : hR set i j = true) : i < set.length ∧ (tat set i).E = (tat set j).W := by
  simp only [hR, decide_eq_true_eq] at h; exact ⟨h.1, h.2.2⟩
theorem tor_cert {set : List Tile} {a b : Nat} {t : List (List Nat)} (hc : torC a b t = true) (ha : sub9 a (mkM (vR set)) = true) (hb : sub9 b (mkM (hR set)) = true) : ∃ w h f, (1 ≤ w ∧ w ≤ 3) ∧ (1 ≤ h ∧ h ≤ 3) ∧ TorF set w h f := by
  unfold torC at hc
  simp only [Bool.and_eq_true, decide_eq_true_eq, List.all_eq_true, List.mem_range] at hc
  obtain ⟨⟨hh, hw⟩, hc⟩ := hc
  obtain ⟨W, hW⟩ : ∃ W, (t.getD 0 []).length = W := ⟨_, rfl⟩
  rw [hW] at hw hc
  have lt3 : ∀ y x, y < t.length → x < W → (t.getD y []).getD x 0 < 3 := fun y x hy hx => ((hc y hy).2 x hx).1.1
  have hv : ∀ y x, y < t.length → x < W → vR set ((t.getD y []).getD x 0) ((t.getD ((y + 1) % t.length) []).getD x 0) = true := fun y x hy hx => by
    rw [← mkM_bit (vR set) (lt3 y x hy hx) (lt3 _ x (Nat.mod_lt _ (by omega)) hx)]
    exact sub9_bit ha _ ((hc y hy).2 x hx).1.2
  have hh' : ∀ y x, y < t.length → x < W → hR set ((t.getD y []).getD x 0) ((t.getD y []).getD ((x + 1) % W) 0) = true := fun y x hy hx => by
    rw [← mkM_bit (hR set) (lt3 y x hy hx) (lt3 y _ hy (Nat.mod_lt _ (by omega)))]
    exact sub9_bit hb _ ((hc y hy).2 x hx).2
  have hlen : ∀ y, y < t.length → (t.getD y []).length = W := fun y hy => (hc y hy).1
  have hside : ∀ y z, y < t.length → z = (y + 1) % t.length → sideN set (t.getD y []) = sideS set (t.getD z []) := fun y z hy hz => by
    have hzl : z < t.length := by rw [hz]; exact Nat.mod_lt _ (by omega)
    apply List.ext_getElem
    · simp only [sideN, sideS, List.length_map]; rw [hlen y hy, hlen z hzl]
    · intro x h1 h2
      have hx : x < W := by rw [sideN, List.length_map, hlen y hy] at h1; exact h1
      have := (vR_N (hv y x hy hx)).2
      rw [← hz] at this
      have g : ∀ u (hu : u < t.length), (t.getD u []).getD x 0 = (t.getD u [])[x]'(by rw [hlen u hu]; exact hx) := fun u hu => by
        rw [List.getD_eq_getElem?_getD, List.getElem?_eq_getElem (by rw [hlen u hu]; exact hx), Option.getD_some]
      rw [g y hy, g z hzl] at this
      simp only [sideN, sideS, List.getElem_map]
      exact this
  refine ⟨W, t.length, fun y => t.getD y [], hw, hh, ⟨fun y hy => ⟨hlen y hy, fun x hx => (hR_E (hh' y x hy hx)).1, fun x hx => ?_⟩, fun y hy => hside y (y + 1) (by omega) (by rw [Nat.mod_eq_of_lt hy])⟩, fun y hy => ?_, hside (t.length - 1) 0 (by omega) (by rw [show t.length - 1 + 1 = t.length by omega, Nat.mod_self])⟩
  · have := (hR_E (hh' y x hy (by omega))).2
    rwa [Nat.mod_eq_of_lt hx] at this
  · have := (hR_E (hh' y (W - 1) hy (by omega))).2
    rwa [show W - 1 + 1 = W by omega, Nat.mod_self] at this
theorem census3 (set : List Tile) (hl : set.length ≤ 3) : (∃ w h f, (1 ≤ w ∧ w ≤ 3) ∧ (1 ≤ h ∧ h ≤ 3) ∧ TorF set w h f) ∨ ¬ ∃ f, Fill set 4 4 f := by
  have h1 := List.all_eq_true.1 cen_ok _ (vR_mem set)
  have h2 := List.all_eq_true.1 h1 _ (hR_mem set)
  rw [Bool.or_eq_true, List.any_eq_true, List.any_eq_true] at h2
  rcases h2 with ⟨b, hb, hs⟩ | ⟨b, hb, hs⟩
  · left
    obtain ⟨c, hc, rfl⟩ := List.mem_map.1 hb
    obtain ⟨hc, hc2⟩ := List.mem_filter.1 hc
    exact tor_cert (List.all_eq_true.1 tor_ok c hc) hc2 hs
  · right
    rintro ⟨f, hf⟩
    obtain ⟨c, hc, rfl⟩ := List.mem_map.1 hb
    obtain ⟨hc, hc2⟩ := List.mem_filter.1 hc
    have := List.all_eq_true.1 non_ok c hc
    simp only [Bool.and_eq_true, decide_eq_true_eq] at this
    obtain ⟨⟨⟨k1, k2⟩, k3⟩, k4⟩ := this
    rw [fill_goF hl (fill_sub hf (w' := c.2.2.1) (h' := c.2.2.2) k2 k3) k1 hc2 hs] at k4
    cases k4
end Gp
set_option linter.unusedVariables false
set_option linter.unusedSimpArgs false
namespace Gp
open Gw Gq
/-! ### the least torus -/
def tryW (set : List Tile) (m a w : Nat) : Option Pattern := if a % w = 0 ∧ a / w ≤ m then (findS (ringL set w) (a / w)).map fun l => ⟨w, (a / w : Nat), cellsR l⟩ else none
def firstW (set : List Tile) (m a : Nat) : Nat → Nat → Option Pattern
  | 0, _ => none
  | d + 1, w => match tryW set m a w with
    | some p => some p
    | none => firstW set m a d (w + 1)
def firstA (set : List Tile) (m : Nat) : Nat → Nat → Option Pattern
  | 0, _ => none
  | d + 1, a => match firstW set m a m 1 with
    | some p => some p
    | none => firstA set m d (a + 1)
def leastS (set : List Tile) (m : Nat) : Option Pattern := firstA set m (m * m) 1
theorem few_pow {n m w : Nat} (hf : fewB n m = true) (hw : w ≤ m) : n ^ w ≤ 100000 := by
  unfold fewB at hf
  rw [decide_eq_true_eq] at hf
  have h1 : n ^ w ≤ (max n 1) ^ w := Nat.pow_le_pow_left (by omega) w
  have h2 : (max n 1) ^ w ≤ (max n 1) ^ m := Nat.pow_le_pow_right (by omega) hw
  omega
theorem least_l1 (set : List Tile) (m a : Nat) (hm : m ≤ 6) (ha : 1 ≤ a ∧ a ≤ 36) (hl : set.length ≤ 1000) (hf : fewB set.length m = true) : ∀ (d w k : Nat), w + d = m + 1 → 1 ≤ w → 300001 + d < k → torus_Least.l1 k w set m a = some (match firstW set m a d w with
    | some p => .inl (p, 0)
    | none => .inr ())
  | 0, w, k, e, h1, hk => by
    obtain ⟨k, rfl⟩ : ∃ m, k = m + 1 := ⟨k - 1, by omega⟩
    rw [torus_Least.l1, if_neg (by simp; omega)]; rfl
  | d + 1, w, k, e, h1, hk => by
    obtain ⟨k, rfl⟩ : ∃ m, k = m + 1 := ⟨k - 1, by omega⟩
    have ih := least_l1 set m a hm ha hl hf d (w + 1) k (by omega) (by omega) (by omega)
    have e1 : Int.tmod (a : Int) (w : Int) = ((a % w : Nat) : Int) := rfl
    have e2 : Int.tdiv (a : Int) (w : Int) = ((a / w : Nat) : Int) := rfl
    have hq : a / w ≤ a := Nat.div_le_self _ _
    have hq0 : (0 : Int) ≤ ((a / w : Nat) : Int) := Int.natCast_nonneg _
    have hq3 : ((a / w : Nat) : Int) ≤ 36 := Int.ofNat_le.2 (Nat.le_trans hq ha.2)
    have hwi : w64 ((w : Int) + 1) = ((w + 1 : Nat) : Int) := by rw [w64_id (by omega) (by omega)]; rfl
    rw [torus_Least.l1, if_pos (by simp; omega), if_pos (by omega), e1, e2, w64_id (n := ((a / w : Nat) : Int)) (by omega) (by omega), hwi, firstW]
    unfold tryW
    by_cases hc : a % w = 0 ∧ a / w ≤ m
    · have hq1 : 1 ≤ a / w := by
        rcases Nat.eq_zero_or_pos (a / w) with h0 | h0
        · have := Nat.div_add_mod a w
          rw [h0, hc.1, Nat.mul_zero] at this; omega
        · exact h0
      rw [if_neg (by simp; omega), if_pos hc, find_eq set w (a / w) ⟨h1, by omega⟩ ⟨hq1, by omega⟩ hl (few_pow hf (by omega)) (by omega), Option.bind_some]
      cases findS (ringL set w) (a / w) with
      | none => simp only [Option.map_none]; rw [if_neg (by simp), Option.bind_some]; exact ih
      | some l => simp only [Option.map_some]; rw [if_pos trivial, Option.bind_some]; rfl
    · rw [if_pos (by simp; omega), if_neg hc, Option.bind_some]; exact ih
theorem least_l0 (set : List Tile) (m : Nat) (hm : m ≤ 6) (hl : set.length ≤ 1000) (hf : fewB set.length m = true) : ∀ (d a k : Nat), a + d = m * m + 1 → 1 ≤ a → 300010 + d < k → torus_Least.l0 k a set m = some (match firstA set m d a with
    | some p => .inl (p, 0)
    | none => .inr ())
  | 0, a, k, e, h1, hk => by
    obtain ⟨k, rfl⟩ : ∃ m, k = m + 1 := ⟨k - 1, by omega⟩
    have : m * m ≤ 36 := Nat.mul_le_mul hm hm
    rw [torus_Least.l0, show (m : Int) * (m : Int) = ((m * m : Nat) : Int) by simp, w64_id (by omega) (by omega), if_neg (by simp; omega)]; rfl
  | d + 1, a, k, e, h1, hk => by
    obtain ⟨k, rfl⟩ : ∃ m, k = m + 1 := ⟨k - 1, by omega⟩
    have h36 : m * m ≤ 36 := Nat.mul_le_mul hm hm
    have ih := least_l0 set m hm hl hf d (a + 1) k (by omega) (by omega) (by omega)
    have hwi : w64 ((a : Int) + 1) = ((a + 1 : Nat) : Int) := by rw [w64_id (by omega) (by omega)]; rfl
    have l1 := least_l1 set m a hm ⟨h1, by omega⟩ hl hf m 1 k (by omega) (by omega) (by omega)
    have l1' : torus_Least.l1 k 1 set m a = _ := l1
    rw [torus_Least.l0, show (m : Int) * (m : Int) = ((m * m : Nat) : Int) by simp, w64_id (n := ((m * m : Nat) : Int)) (by omega) (by omega), if_pos (by simp; omega), l1', hwi, firstA, Option.bind_some]
    cases firstW set m a m 1 with
    | none => exact ih
    | some p => rfl
theorem least_eq (set : List Tile) (m : Nat) (hv : validT set = true) (hm : 1 ≤ m ∧ m ≤ 6) (hf : fewB set.length m = true) {k : Nat} (hk : 300100 < k) : torus_Least k set m = some (match leastS set m with
    | some p => (p, 0)
    | none => (p0P, 6)) := by
  have hl := valid_len hv
  have h36 : m * m ≤ 36 := Nat.mul_le_mul hm.2 hm.2
  unfold torus_Least
  have l0 := least_l0 set m hm.2 hl hf (m * m) 1 k (by omega) (by omega) (by omega)
  have l0' : torus_Least.l0 k 1 set m = _ := l0
  rw [tile_valid set (by omega) (by omega), hv, Option.bind_some, if_neg (by simp), if_neg (by simp; omega), few_eq set m (by omega) (by omega) (by omega), hf, Option.bind_some, if_neg (by simp), l0', Option.bind_some]
  unfold leastS
  cases firstA set m (m * m) 1 <;> rfl
theorem firstW_some {set : List Tile} {m a : Nat} : ∀ {d w : Nat} {p : Pattern}, firstW set m a d w = some p → ∃ v, w ≤ v ∧ v < w + d ∧ tryW set m a v = some p
  | 0, w, p, h => by cases h
  | d + 1, w, p, h => by
    rw [firstW] at h
    cases ht : tryW set m a w with
    | some q => rw [ht] at h; injection h with h; subst h; exact ⟨w, by omega, by omega, ht⟩
    | none =>
      rw [ht] at h
      obtain ⟨v, h1, h2, h3⟩ := firstW_some h
      exact ⟨v, by omega, by omega, h3⟩
theorem firstW_none {set : List Tile} {m a : Nat} : ∀ {d w : Nat}, firstW set m a d w = none → ∀ v, w ≤ v → v < w + d → tryW set m a v = none
  | 0, w, h, v, h1, h2 => by omega
  | d + 1, w, h, v, h1, h2 => by
    rw [firstW] at h
    cases ht : tryW set m a w with
    | some q => rw [ht] at h; cases h
    | none =>
      rw [ht] at h
      by_cases hv : v = w
      · rw [hv]; exact ht
      · exact firstW_none h v (by omega) (by omega)
theorem firstA_some {set : List Tile} {m : Nat} : ∀ {d a : Nat} {p : Pattern}, firstA set m d a = some p → ∃ b, a ≤ b ∧ b < a + d ∧ firstW set m b m 1 = some p ∧ ∀ c, a ≤ c → c < b → firstW set m c m 1 = none
  | 0, a, p, h => by cases h
  | d + 1, a, p, h => by
    rw [firstA] at h
    cases ht : firstW set m a m 1 with
    | some q => rw [ht] at h; injection h with h; subst h; exact ⟨a, by omega, by omega, ht, fun c _ _ => by omega⟩
    | none =>
      rw [ht] at h
      obtain ⟨v, h1, h2, h3, h4⟩ := firstA_some h
      refine ⟨v, by omega, by omega, h3, fun c hc hcv => ?_⟩
      by_cases he : c = a
      · rw [he]; exact ht
      · exact h4 c (by omega) hcv
theorem firstA_none {set : List Tile} {m : Nat} : ∀ {d a : Nat}, firstA set m d a = none → ∀ b, a ≤ b → b < a + d → firstW set m b m 1 = none
  | 0, w, h, v, h1, h2 => by omega
  | d + 1, w, h, v, h1, h2 => by
    rw [firstA] at h
    cases ht : firstW set m w m 1 with
    | some q => rw [ht] at h; cases h
    | none =>
      rw [ht] at h
      by_cases hv : v = w
      · rw [hv]; exact ht
      · exact firstA_none h v (by omega) (by omega)
theorem tryW_some {set : List Tile} {m a w : Nat} {p : Pattern} (hw : 1 ≤ w ∧ w ≤ 8) (ha : 1 ≤ a) (h : tryW set m a w = some p) : a % w = 0 ∧ 1 ≤ a / w ∧ a / w ≤ m ∧ ∃ f, TorF set w (a / w) f ∧ p = patR w (a / w) f := by
  unfold tryW at h
  split at h
  · rename_i hc
    rw [Option.map_eq_some_iff] at h
    obtain ⟨l, hl, rfl⟩ := h
    have hq1 : 1 ≤ a / w := by
      rcases Nat.eq_zero_or_pos (a / w) with h0 | h0
      · have := Nat.div_add_mod a w
        rw [h0, hc.1, Nat.mul_zero] at this; omega
      · exact h0
    obtain ⟨f, hf, hp⟩ := find_some hw hq1 hl
    exact ⟨hc.1, hq1, hc.2, f, hf, hp⟩
  · cases h
theorem tryW_none {set : List Tile} {m w h : Nat} (hw : 1 ≤ w ∧ w ≤ 8) (hh : 1 ≤ h ∧ h ≤ m) (hn : tryW set m (h * w) w = none) (f : Nat → List Nat) : ¬ TorF set w h f := by
  unfold tryW at hn
  have e1 : h * w / w = h := Nat.mul_div_cancel _ (by omega)
  rw [Nat.mul_mod_left, e1, if_pos ⟨rfl, hh.2⟩, Option.map_eq_none_iff] at hn
  exact find_none hw hh.1 hn f
theorem least_some {set : List Tile} {m : Nat} (hm : m ≤ 6) {p : Pattern} (h : leastS set m = some p) : ∃ w h f, (1 ≤ w ∧ w ≤ m) ∧ (1 ≤ h ∧ h ≤ m) ∧ TorF set w h f ∧ p = patR w h f ∧ ∀ w' h', 1 ≤ w' → w' ≤ m → 1 ≤ h' → h' ≤ m → h' * w' < h * w → ∀ f', ¬ TorF set w' h' f' := by
  obtain ⟨b, b1, b2, b3, b4⟩ := firstA_some h
  obtain ⟨w, w1, w2, w3⟩ := firstW_some b3
  obtain ⟨h1, h2, h3, f, h4, h5⟩ := tryW_some ⟨w1, by omega⟩ b1 w3
  refine ⟨w, b / w, f, ⟨w1, by omega⟩, ⟨h2, h3⟩, h4, h5, fun w' h' a1 a2 a3 a4 hlt f' => ?_⟩
  have hb : b / w * w = b := by
    have := Nat.div_add_mod b w
    rw [h1, Nat.mul_comm] at this; omega
  rw [hb] at hlt
  exact tryW_none ⟨a1, by omega⟩ ⟨a3, a4⟩ (firstW_none (b4 (h' * w') (Nat.mul_pos a3 a1) hlt) w' (by omega) (by omega)) f'
theorem least_none {set : List Tile} {m : Nat} (hm : m ≤ 6) (h : leastS set m = none) {w' h' : Nat} (a1 : 1 ≤ w') (a2 : w' ≤ m) (a3 : 1 ≤ h') (a4 : h' ≤ m) (f' : Nat → List Nat) : ¬ TorF set w' h' f' :=
  tryW_none ⟨a1, by omega⟩ ⟨a3, a4⟩ (firstW_none (firstA_none h (h' * w') (Nat.mul_pos a3 a1) (by have := Nat.mul_le_mul a4 a2; omega)) w' (by omega) (by omega)) f'
/-! ### the decision -/
def firstN (set : List Tile) : Nat → Nat → Option Nat
  | 0, _ => none
  | d + 1, n => if (sqE set n).2 ≠ 0 then none else if (sqE set n).1 = false then some n else firstN set d (n + 1)
def stN : Option Nat → Int × Int
  | some n => (n, 1)
  | none => (0, 0)
theorem sides_l0 {set : List Tile} (hv : validT set = true) (K : Nat) : ∀ (d n k : Nat), n + d = 9 → 10000 + d < k → decide_sides_1_y.l0 k n (0, (0 : Int)) set (decide_Decide.b1 K) = some (.inl (stN (firstN set d n))) ∨ decide_sides_1_y.l0 k n (0, (0 : Int)) set (decide_Decide.b1 K) = some (.inr (stN (firstN set d n)))
  | 0, n, k, e, hk => by
    obtain ⟨k, rfl⟩ : ∃ m, k = m + 1 := ⟨k - 1, by omega⟩
    right
    rw [decide_sides_1_y.l0, if_neg (by simp; omega)]; rfl
  | d + 1, n, k, e, hk => by
    obtain ⟨k, rfl⟩ : ∃ m, k = m + 1 := ⟨k - 1, by omega⟩
    have ih := sides_l0 hv K d (n + 1) k (by omega) (by omega)
    have hwi : w64 ((n : Int) + 1) = ((n + 1 : Nat) : Int) := by rw [w64_id (by omega) (by omega)]; rfl
    rw [decide_sides_1_y.l0, if_pos (by simp; omega), exists_val hv _ (by omega), Option.bind_some, hwi, firstN]
    by_cases h2 : (sqE set n).2 ≠ 0
    · rw [if_pos (by simpa using h2), if_pos h2]; left; rfl
    · rw [if_neg (by simpa using h2), if_neg h2]
      unfold decide_Decide.b1
      cases h1 : (sqE set n).1
      · rw [if_pos rfl]; left; rfl
      · rw [if_neg (by simp)]
        exact ih
theorem sides_eq {set : List Tile} (hv : validT set = true) {k : Nat} (hk : 20000 < k) : decide_sides_1_y k set (decide_Decide.b1 k) (0, (0 : Int)) = some (stN (firstN set 8 1)) := by
  unfold decide_sides_1_y
  rcases sides_l0 hv k 8 1 k (by omega) (by omega) with h | h
  · have h' : decide_sides_1_y.l0 k 1 (0, (0 : Int)) set (decide_Decide.b1 k) = _ := h
    rw [h']; rfl
  · have h' : decide_sides_1_y.l0 k 1 (0, (0 : Int)) set (decide_Decide.b1 k) = _ := h
    rw [h']; rfl
def vz : Verdict := Verdict.mk false (Pattern.mk 0 0 ([] : List Int)) 0
def decV (set : List Tile) : Verdict × Int := match firstN set 8 1 with
  | some n => (⟨false, p0P, n⟩, 0)
  | none => match leastS set 6 with
    | some p => (⟨true, p, 0⟩, 0)
    | none => (vz, 6)
theorem few3 {n w : Nat} (hn : n ≤ 3) (hw : w ≤ 7) : fewB n w = true := by
  unfold fewB
  rw [decide_eq_true_eq]
  have h1 : (max n 1) ^ w ≤ 3 ^ w := Nat.pow_le_pow_left (by omega) w
  have h2 : 3 ^ w ≤ 3 ^ 7 := Nat.pow_le_pow_right (by omega) hw
  omega
theorem decide_eq {set : List Tile} (hv : validT set = true) (h3 : set.length ≤ 3) {k : Nat} (hk : 300100 < k) : decide_Decide k set = some (decV set) := by
  unfold decide_Decide decide_asks decide_sides
  rw [tile_valid set (by omega) (by omega), hv, Option.bind_some, if_neg (by simp), if_neg (by simp; omega), Option.bind_some, if_neg (by simp), Option.bind_some, sides_eq hv (by omega), Option.bind_some]
  have l6 := least_eq set 6 hv ⟨by omega, by omega⟩ (few3 h3 (by omega)) hk
  have l6' : torus_Least k set 6 = _ := l6
  unfold decV
  cases firstN set 8 1 with
  | some n => rfl
  | none =>
    rw [l6']
    cases leastS set 6 <;> rfl
theorem sqE_few {set : List Tile} {n : Nat} (hf : fewB set.length n = true) (h : 1 ≤ n ∧ n ≤ 8) : sqE set n = (fillB set n, 0) := by
  unfold sqE
  rw [if_pos (by omega), Int.toNat_natCast, if_pos hf]
theorem firstN_some {set : List Tile} : ∀ {d n s : Nat}, firstN set d n = some s → n ≤ s ∧ s < n + d ∧ sqE set s = (false, 0) ∧ ∀ t : Nat, n ≤ t → t < s → sqE set t = (true, 0)
  | 0, n, s, h => by cases h
  | d + 1, n, s, h => by
    rw [firstN] at h
    split at h
    · cases h
    rename_i h2
    split at h
    · rename_i h1
      injection h with h; subst h
      exact ⟨by omega, by omega, Prod.ext h1 (by simpa using h2), fun t _ _ => by omega⟩
    · rename_i h1
      obtain ⟨a1, a2, a3, a4⟩ := firstN_some h
      refine ⟨by omega, by omega, a3, fun t t1 t2 => ?_⟩
      by_cases ht : t = n
      · rw [ht]; exact Prod.ext (by simpa using h1) (by simpa using h2)
      · exact a4 t (by omega) t2
theorem firstN_none {set : List Tile} : ∀ {d n : Nat}, firstN set d n = none → ∀ t : Nat, n ≤ t → t < n + d → (∀ j : Nat, n ≤ j → j ≤ t → (sqE set j).2 = 0) → (sqE set t).1 = true
  | 0, n, h, t, _, _, _ => by omega
  | d + 1, n, h, t, t1, t2, hj => by
    rw [firstN] at h
    have h2 := hj n (Nat.le_refl _) t1
    rw [if_neg (by simpa using h2)] at h
    split at h
    · cases h
    rename_i h1
    by_cases ht : t = n
    · rw [ht]; simpa using h1
    · exact firstN_none h t (by omega) (by omega) (fun j j1 j2 => hj j (by omega) j2)
theorem dec_cases {set : List Tile} (h3 : set.length ≤ 3) : (∃ n : Nat, (1 ≤ n ∧ n ≤ 8) ∧ firstN set 8 1 = some n ∧ sqE set n = (false, 0) ∧ (∀ t : Nat, 1 ≤ t → t < n → sqE set t = (true, 0)) ∧ leastS set 6 = none ∧ decV set = (⟨false, p0P, n⟩, 0) ∧ fillB set 4 = false) ∨ (∃ p, firstN set 8 1 = none ∧ leastS set 6 = some p ∧ decV set = (⟨true, p, 0⟩, 0) ∧ fillB set 4 = true) := by
  have key : ∀ n : Nat, 1 ≤ n → n ≤ 8 → sqE set n = (false, 0) → ∀ w h f, 1 ≤ w → 1 ≤ h → ¬ TorF set w h f := fun n n1 n8 hs w h f w1 hh1 ht => by
    have hB := fillB_of_tor ht w1 hh1 n1 n8
    unfold sqE at hs
    rw [if_pos (by omega), Int.toNat_natCast] at hs
    split at hs
    · rw [hB] at hs; cases congrArg Prod.fst hs
    · cases congrArg Prod.snd hs
  have c4 : fillB set 4 = true ↔ ∃ f, Fill set 4 4 f := fillB_iff set (by omega) (by omega)
  cases hn : firstN set 8 1 with
  | some n =>
    left
    obtain ⟨a1, a2, a3, a4⟩ := firstN_some hn
    refine ⟨n, ⟨a1, by omega⟩, rfl, a3, a4, ?_, by unfold decV; rw [hn], ?_⟩
    · cases hl : leastS set 6 with
      | none => rfl
      | some p =>
        obtain ⟨w, h, f, hw, hh, ht, _⟩ := least_some (by omega) hl
        exact absurd ht (key n a1 (by omega) a3 w h f hw.1 hh.1)
    · cases h4 : fillB set 4
      · rfl
      · rcases census3 set h3 with ⟨w, h, f, hw, hh, ht⟩ | hno
        · exact absurd ht (key n a1 (by omega) a3 w h f hw.1 hh.1)
        · exact absurd (c4.1 h4) hno
  | none =>
    right
    have h4 : (sqE set (4 : Nat)).1 = true := firstN_none hn 4 (by omega) (by omega) (fun j j1 j2 => by rw [sqE_few (few3 h3 (by omega)) ⟨j1, by omega⟩])
    rw [sqE_few (few3 h3 (by omega)) (by omega)] at h4
    rcases census3 set h3 with ⟨w, h, f, hw, hh, ht⟩ | hno
    · cases hl : leastS set 6 with
      | none => exact absurd ht (least_none (by omega) hl hw.1 (by omega) hh.1 (by omega) f)
      | some p => exact ⟨p, rfl, rfl, by unfold decV; rw [hn, hl], h4⟩
    · exact absurd (c4.1 h4) hno
end Gp
set_option linter.unusedVariables false
set_option linter.unusedSimpArgs false
namespace Gp
open Gw Gq
/-! ### fillings as grids; turned and renamed sets -/
end Gp
set_option linter.unusedVariables false
set_option linter.unusedSimpArgs false
namespace Gp
open Gw Gq
/-! ### small sets -/
theorem decides_ok (k : Nat) : top_decides (k + 300) = some true := by kernel_rfl
end Gp
set_option linter.unusedVariables false
set_option linter.unusedSimpArgs false
namespace Gp
open Gw Gq
/-! ### a set with one tile more -/
end Gp
set_option linter.unusedVariables false
set_option linter.unusedSimpArgs false
namespace Gp
open Gw Gq
/-! ### names of colours in the order in which they are met -/
theorem mgetN {κ ν : Type} [DecidableEq κ] (x y : κ) (z v : ν) : ∀ l : List (κ × ν), mget x z (mput y v l) = if x = y then v else mget x z l
  | [] => by simp [mput, mget]
  | p :: r => by
    simp only [mput]
    by_cases h : y = p.1
    · rw [if_pos h]
      simp only [mget]
      by_cases hx : x = y
      · rw [if_pos hx, if_pos hx]
      · rw [if_neg hx, if_neg hx, if_neg (fun e => hx (e.trans h.symm))]
    · rw [if_neg h]
      simp only [mget]
      by_cases hx : x = p.1
      · rw [if_pos hx, if_pos hx, if_neg (fun e => h (e.symm.trans hx))]
      · rw [if_neg hx, if_neg hx]; exact mgetN x y z v r
theorem mhasN {κ ν : Type} [DecidableEq κ] (x y : κ) (v : ν) : ∀ l : List (κ × ν), mhas x (mput y v l) = (decide (x = y) || mhas x l)
  | [] => by simp [mput, mhas]
  | p :: r => by
    simp only [mput]
    by_cases h : y = p.1
    · rw [if_pos h]
      simp only [mhas]
      by_cases hx : x = y
      · simp [hx]
      · have : ¬ x = p.1 := fun e => hx (e.trans h.symm)
        simp [hx, this]
    · rw [if_neg h]
      simp only [mhas, mhasN x y v r]
      by_cases hx : x = y
      · have : ¬ x = p.1 := fun e => h (hx.symm.trans e)
        simp [hx]
      · simp [hx]
theorem mlenN {κ ν : Type} [DecidableEq κ] (y : κ) (v : ν) : ∀ l : List (κ × ν), mhas y l = false → (mput y v l).length = l.length + 1
  | [], _ => rfl
  | p :: r, h => by
    simp only [mhas] at h
    simp only [mput]
    by_cases e : y = p.1
    · simp [e] at h
    · rw [if_neg e, List.length_cons, mlenN y v r (by simpa [e] using h), List.length_cons]
structure NM (m : List (Int × Int)) (met : List Int) : Prop where
  len : m.length = met.length
  has : ∀ c, mhas c m = decide (c ∈ met)
  get : ∀ c, c ∈ met → mget c 0 m = ((met.idxOf c : Nat) : Int)
def addM (met : List Int) (c : Int) : List Int := if c ∈ met then met else met ++ [c]
def ixM (met : List Int) (c : Int) : Int := ((met.idxOf c : Nat) : Int)
theorem addM_mem (met : List Int) (c x : Int) : x ∈ addM met c ↔ x ∈ met ∨ x = c := by
  unfold addM
  split
  · rename_i h
    exact ⟨.inl, fun h2 => h2.elim id fun e => e ▸ h⟩
  · rw [List.mem_append, List.mem_singleton]
theorem addM_len (met : List Int) (c : Int) : (addM met c).length ≤ met.length + 1 := by
  unfold addM; split
  · omega
  · rw [List.length_append]; exact Nat.le_refl _
theorem ixM_add {met : List Int} {x : Int} (c : Int) (h : x ∈ met) : ixM (addM met c) x = ixM met x := by
  unfold addM ixM
  split
  · rfl
  · rw [List.idxOf_append, if_pos h]
theorem of_ok {m : List (Int × Int)} {met : List Int} (h : NM m met) (c : Int) : ∃ m', census_names_of m c = some (ixM (addM met c) c, m') ∧ NM m' (addM met c) := by
  unfold census_names_of
  rw [h.has]
  by_cases hc : c ∈ met
  · have ha : addM met c = met := by unfold addM; rw [if_pos hc]
    rw [decide_eq_true hc, ha]
    exact ⟨m, by rw [if_neg (by decide), Option.bind_some, h.get c hc]; rfl, h⟩
  · have ha : addM met c = met ++ [c] := by unfold addM; rw [if_neg hc]
    have hi : (met ++ [c]).idxOf c = met.length := by
      rw [List.idxOf_append, if_neg hc]; simp
    have hf : mhas c m = false := by rw [h.has, decide_eq_false hc]
    rw [decide_eq_false hc, ha]
    refine ⟨mput c (m.length : Int) m, ?_, ⟨?_, fun x => ?_, fun x hx => ?_⟩⟩
    · rw [if_pos (by decide), Option.bind_some, mgetN, if_pos rfl]
      unfold ixM
      rw [hi, h.len]
    · rw [mlenN c _ m hf, List.length_append, h.len]; rfl
    · rw [mhasN, h.has, Bool.eq_iff_iff]
      simp only [Bool.or_eq_true, decide_eq_true_eq, List.mem_append, List.mem_singleton]
      exact Or.comm
    · rw [mgetN]
      by_cases e : x = c
      · subst e; rw [if_pos rfl, hi, h.len]
      · rw [if_neg e]
        have hx2 : x ∈ met := by
          rcases List.mem_append.1 hx with h | h
          · exact h
          · exact absurd (List.mem_singleton.1 h) e
        rw [h.get x hx2, List.idxOf_append, if_pos hx2]
def rnL : List Int → List Int → List Tile → List Tile
  | _, _, [] => []
  | up, sd, t :: l => ⟨ixM (addM up t.N) t.N, ixM (addM sd t.E) t.E, ixM (addM (addM up t.N) t.S) t.S, ixM (addM (addM sd t.E) t.W) t.W⟩ :: rnL (addM (addM up t.N) t.S) (addM (addM sd t.E) t.W) l
def rn (l : List Tile) : List Tile := rnL [] [] l
theorem rnL_len : ∀ (l : List Tile) (up sd : List Int), (rnL up sd l).length = l.length
  | [], _, _ => rfl
  | t :: l, up, sd => by rw [rnL, List.length_cons, rnL_len l, List.length_cons]
theorem rn_len (l : List Tile) : (rn l).length = l.length := rnL_len l _ _
theorem rnL_l0 {s : List Tile} (hs : s.length ≤ 1000) : ∀ (d x k : Nat) (m1 m2 : List (Int × Int)) (up sd : List Int) (acc : List Tile), x + d = s.length → d < k → NM m1 up → NM m2 sd → acc.length ≤ x → census_renamed.l0 k m1 m2 acc x s = some (acc ++ rnL up sd (s.drop x))
  | 0, x, k, m1, m2, up, sd, acc, e, hk, h1, h2, ha => by
    obtain ⟨k, rfl⟩ : ∃ m, k = m + 1 := ⟨k - 1, by omega⟩
    rw [List.drop_of_length_le (by omega), census_renamed.l0, if_neg (by simp; omega), rnL, List.append_nil]
  | d + 1, x, k, m1, m2, up, sd, acc, e, hk, h1, h2, ha => by
    obtain ⟨k, rfl⟩ : ∃ m, k = m + 1 := ⟨k - 1, by omega⟩
    have hx : x < s.length := by omega
    have hwx : w64 ((x : Int) + 1) = ((x + 1 : Nat) : Int) := by rw [w64_id (by omega) (by omega)]; rfl
    obtain ⟨a1, e1, n1⟩ := of_ok h1 s[x].N
    obtain ⟨a2, e2, n2⟩ := of_ok h2 s[x].E
    obtain ⟨a3, e3, n3⟩ := of_ok n1 s[x].S
    obtain ⟨a4, e4, n4⟩ := of_ok n2 s[x].W
    rw [census_renamed.l0, if_pos (by simpa using hx), if_pos (by omega), rdD_get hx, e1, Option.bind_some, e2, Option.bind_some]
    simp only
    rw [e3, Option.bind_some, e4, Option.bind_some]
    simp only
    rw [if_pos (by show acc.length + 1 ≤ _; omega), hwx, rnL_l0 hs d (x + 1) k a3 a4 _ _ _ (by omega) (by omega) n3 n4 (by rw [List.length_append]; show acc.length + 1 ≤ _; omega), List.drop_eq_getElem_cons hx, rnL, List.append_assoc]
    rfl
theorem NM0 : NM [] [] := ⟨rfl, fun c => rfl, fun c h => by cases h⟩
theorem renamed_eq {s : List Tile} (hs : s.length ≤ 1000) {k : Nat} (hk : 2000 < k) : census_renamed k s = some (rn s) := by
  have h := rnL_l0 hs s.length 0 k [] [] [] [] [] (by omega) (by omega) NM0 NM0 (Nat.le_refl _)
  rw [List.drop_zero, List.nil_append] at h
  have h : census_renamed.l0 k [] [] [] 0 s = _ := h
  unfold census_renamed
  rw [h]; rfl
/-! the names do not matter -/
theorem idx_map {f : Int → Int} {P : Int → Prop} (hf : ∀ a b, P a → P b → f a = f b → a = b) : ∀ (met : List Int) (c : Int), (∀ x ∈ met, P x) → P c → (met.map f).idxOf (f c) = met.idxOf c
  | [], c, _, _ => rfl
  | a :: met, c, h, hc => by
    rw [List.map_cons, List.idxOf_cons, List.idxOf_cons, idx_map hf met c (fun x hx => h x (List.mem_cons_of_mem _ hx)) hc]
    by_cases e : a = c
    · subst e; simp
    · have : ¬ f a = f c := fun h2 => e (hf a c (h a List.mem_cons_self) hc h2)
      rw [beq_false_of_ne e, beq_false_of_ne this]
theorem mem_mapI {f : Int → Int} {P : Int → Prop} (hf : ∀ a b, P a → P b → f a = f b → a = b) {met : List Int} {c : Int} (h : ∀ x ∈ met, P x) (hc : P c) : f c ∈ met.map f ↔ c ∈ met := by
  rw [List.mem_map]
  exact ⟨fun ⟨x, hx, e⟩ => (hf x c (h x hx) hc e) ▸ hx, fun h => ⟨c, h, rfl⟩⟩
theorem addM_map {f : Int → Int} {P : Int → Prop} (hf : ∀ a b, P a → P b → f a = f b → a = b) {met : List Int} {c : Int} (h : ∀ x ∈ met, P x) (hc : P c) : addM (met.map f) (f c) = (addM met c).map f ∧ ∀ x ∈ addM met c, P x := by
  refine ⟨?_, fun x hx => ((addM_mem met c x).1 hx).elim (h x) fun e => e ▸ hc⟩
  unfold addM
  by_cases hm : c ∈ met
  · rw [if_pos hm, if_pos ((mem_mapI hf h hc).2 hm)]
  · rw [if_neg hm, if_neg (fun h2 => hm ((mem_mapI hf h hc).1 h2)), List.map_append]; rfl
def rT (f g : Int → Int) (t : Tile) : Tile := ⟨f t.N, g t.E, f t.S, g t.W⟩
theorem rnL_map {f g : Int → Int} {P Q : Int → Prop} (hf : ∀ a b, P a → P b → f a = f b → a = b) (hg : ∀ a b, Q a → Q b → g a = g b → a = b) : ∀ (l : List Tile) (up sd : List Int), (∀ x ∈ up, P x) → (∀ x ∈ sd, Q x) → (∀ t ∈ l, (P t.N ∧ P t.S) ∧ Q t.E ∧ Q t.W) → rnL (up.map f) (sd.map g) (l.map (rT f g)) = rnL up sd l
  | [], up, sd, _, _, _ => rfl
  | t :: l, up, sd, h1, h2, h3 => by
    obtain ⟨⟨p1, p2⟩, q1, q2⟩ := h3 t List.mem_cons_self
    obtain ⟨a1, b1⟩ := addM_map hf h1 p1
    obtain ⟨a2, b2⟩ := addM_map hf b1 p2
    obtain ⟨a3, b3⟩ := addM_map hg h2 q1
    obtain ⟨a4, b4⟩ := addM_map hg b3 q2
    rw [List.map_cons, rnL, rnL]
    show (⟨ixM (addM (up.map f) (f t.N)) (f t.N), ixM (addM (sd.map g) (g t.E)) (g t.E), ixM (addM (addM (up.map f) (f t.N)) (f t.S)) (f t.S), ixM (addM (addM (sd.map g) (g t.E)) (g t.W)) (g t.W)⟩ : Tile) :: rnL (addM (addM (up.map f) (f t.N)) (f t.S)) (addM (addM (sd.map g) (g t.E)) (g t.W)) (l.map (rT f g)) = _
    rw [a1, a3, a2, a4, rnL_map hf hg l _ _ b2 b4 fun u hu => h3 u (List.mem_cons_of_mem _ hu)]
    unfold ixM
    rw [idx_map hf _ _ b1 p1, idx_map hf _ _ b2 p2, idx_map hg _ _ b3 q1, idx_map hg _ _ b4 q2]
theorem rn_map {f g : Int → Int} {P Q : Int → Prop} (hf : ∀ a b, P a → P b → f a = f b → a = b) (hg : ∀ a b, Q a → Q b → g a = g b → a = b) {l : List Tile} (h : ∀ t ∈ l, (P t.N ∧ P t.S) ∧ Q t.E ∧ Q t.W) : rn (l.map (rT f g)) = rn l :=
  rnL_map hf hg l [] [] (fun _ h => by cases h) (fun _ h => by cases h) h
/-! what is renamed, told by two lists of colours -/
theorem rnL_form : ∀ (l : List Tile) (up sd : List Int), ∃ U V : List Int, (∀ x ∈ up, x ∈ U ∧ ixM U x = ixM up x) ∧ (∀ x ∈ sd, x ∈ V ∧ ixM V x = ixM sd x) ∧ (∀ t ∈ l, (t.N ∈ U ∧ t.S ∈ U) ∧ t.E ∈ V ∧ t.W ∈ V) ∧ rnL up sd l = l.map (rT (ixM U) (ixM V)) ∧ U.length ≤ up.length + 2 * l.length ∧ V.length ≤ sd.length + 2 * l.length
  | [], up, sd => ⟨up, sd, fun x h => ⟨h, rfl⟩, fun x h => ⟨h, rfl⟩, fun t h => (by cases h), rfl, by simp, by simp⟩
  | t :: l, up, sd => by
    obtain ⟨U, V, h1, h2, h3, h4, h5, h6⟩ := rnL_form l (addM (addM up t.N) t.S) (addM (addM sd t.E) t.W)
    have mN : t.N ∈ addM up t.N := (addM_mem ..).2 (.inr rfl)
    have mE : t.E ∈ addM sd t.E := (addM_mem ..).2 (.inr rfl)
    have mN2 : t.N ∈ addM (addM up t.N) t.S := (addM_mem ..).2 (.inl mN)
    have mE2 : t.E ∈ addM (addM sd t.E) t.W := (addM_mem ..).2 (.inl mE)
    have mS : t.S ∈ addM (addM up t.N) t.S := (addM_mem ..).2 (.inr rfl)
    have mW : t.W ∈ addM (addM sd t.E) t.W := (addM_mem ..).2 (.inr rfl)
    refine ⟨U, V, fun x hx => ?_, fun x hx => ?_, fun u hu => ?_, ?_, ?_, ?_⟩
    · have hx1 : x ∈ addM up t.N := (addM_mem ..).2 (.inl hx)
      obtain ⟨a, b⟩ := h1 x ((addM_mem ..).2 (.inl hx1))
      exact ⟨a, by rw [b, ixM_add _ hx1, ixM_add _ hx]⟩
    · have hx1 : x ∈ addM sd t.E := (addM_mem ..).2 (.inl hx)
      obtain ⟨a, b⟩ := h2 x ((addM_mem ..).2 (.inl hx1))
      exact ⟨a, by rw [b, ixM_add _ hx1, ixM_add _ hx]⟩
    · rcases List.mem_cons.1 hu with rfl | hu
      · exact ⟨⟨(h1 _ mN2).1, (h1 _ mS).1⟩, (h2 _ mE2).1, (h2 _ mW).1⟩
      · exact h3 u hu
    · rw [rnL, h4, List.map_cons]
      unfold rT
      rw [(h1 _ mN2).2, (h1 _ mS).2, (h2 _ mE2).2, (h2 _ mW).2, ixM_add _ mN, ixM_add _ mE]
    · have := addM_len up t.N; have := addM_len (addM up t.N) t.S
      rw [List.length_cons]; omega
    · have := addM_len sd t.E; have := addM_len (addM sd t.E) t.W
      rw [List.length_cons]; omega
theorem ixM_inj {U : List Int} {a b : Int} (ha : a ∈ U) (hb : b ∈ U) (h : ixM U a = ixM U b) : a = b := by
  unfold ixM at h
  have h : U.idxOf a = U.idxOf b := by omega
  have la := List.idxOf_lt_length_of_mem ha
  have lb := List.idxOf_lt_length_of_mem hb
  have e1 := List.getElem_idxOf la
  have e2 := List.getElem_idxOf lb
  rw [← e1, ← e2]
  congr 1
theorem rn_form (l : List Tile) : ∃ U V : List Int, (∀ t ∈ l, (t.N ∈ U ∧ t.S ∈ U) ∧ t.E ∈ V ∧ t.W ∈ V) ∧ rn l = l.map (rT (ixM U) (ixM V)) ∧ U.length ≤ 2 * l.length ∧ V.length ≤ 2 * l.length := by
  obtain ⟨U, V, _, _, h3, h4, h5, h6⟩ := rnL_form l [] []
  exact ⟨U, V, h3, h4, by simpa using h5, by simpa using h6⟩
end Gp
set_option linter.unusedVariables false
set_option linter.unusedSimpArgs false
namespace Gp
open Gw Gq
/-! ### the order of sets -/
def numL (s : List Tile) : List Int := s.flatMap fun t => [t.N, t.E, t.S, t.W]
theorem numL_inj : ∀ {a b : List Tile}, numL a = numL b → a = b
  | [], [], _ => rfl
  | [], _ :: _, h => by simp [numL] at h
  | _ :: _, [], h => by simp [numL] at h
  | x :: a, y :: b, h => by
    simp only [numL, List.flatMap_cons, List.cons_append, List.nil_append, List.cons.injEq] at h
    obtain ⟨h1, h2, h3, h4, h5⟩ := h
    rw [numL_inj (a := a) (b := b) h5]
    cases x; cases y
    simp only at h1 h2 h3 h4
    rw [h1, h2, h3, h4]
theorem numL_len : ∀ s : List Tile, (numL s).length = 4 * s.length
  | [] => rfl
  | t :: s => by
    show ([t.N, t.E, t.S, t.W] ++ numL s).length = 4 * (s.length + 1)
    rw [List.length_append, numL_len s]
    show 4 + 4 * s.length = _
    omega
theorem num_l0 {s : List Tile} (hs : s.length ≤ 1000) : ∀ (d x k : Nat) (acc : List Int), x + d = s.length → d < k → acc.length ≤ 4 * x → census_numbers.l0 k acc x s = some (acc ++ numL (s.drop x))
  | 0, x, k, acc, e, hk, ha => by
    obtain ⟨k, rfl⟩ : ∃ m, k = m + 1 := ⟨k - 1, by omega⟩
    rw [List.drop_of_length_le (by omega), census_numbers.l0, if_neg (by simp; omega)]
    show _ = some (acc ++ [])
    rw [List.append_nil]
  | d + 1, x, k, acc, e, hk, ha => by
    obtain ⟨k, rfl⟩ : ∃ m, k = m + 1 := ⟨k - 1, by omega⟩
    have hx : x < s.length := by omega
    have hwx : w64 ((x : Int) + 1) = ((x + 1 : Nat) : Int) := by rw [w64_id (by omega) (by omega)]; rfl
    rw [census_numbers.l0, if_pos (by simpa using hx), if_pos (by omega), rdD_get hx, if_pos (by show acc.length + 4 ≤ _; omega), hwx, num_l0 hs d (x + 1) k _ (by omega) (by omega) (by rw [List.length_append]; show acc.length + 4 ≤ _; omega), List.drop_eq_getElem_cons hx, List.append_assoc]
    rfl
theorem numbers_eq {s : List Tile} (hs : s.length ≤ 1000) {k : Nat} (hk : 2000 < k) : census_numbers k s = some (numL s) := by
  have h := num_l0 hs s.length 0 k [] (by omega) (by omega) (by simp)
  rw [List.drop_zero, List.nil_append] at h
  have h : census_numbers.l0 k [] 0 s = _ := h
  unfold census_numbers
  rw [h]; rfl
def ltL : List Int → List Int → Bool
  | _, [] => false
  | [], _ :: _ => true
  | x :: a, y :: b => decide (x < y) || (decide (x = y) && ltL a b)
theorem ltL_irr : ∀ a : List Int, ltL a a = false
  | [] => rfl
  | x :: a => by
    rw [ltL, ltL_irr a]
    simp
theorem ltL_trans : ∀ a b c : List Int, ltL a b = true → ltL b c = true → ltL a c = true
  | a, [], c, h, _ => by cases a <;> cases h
  | _, _ :: _, [], _, h => by cases h
  | [], _ :: _, _ :: _, _, _ => rfl
  | x :: a, y :: b, z :: c, h1, h2 => by
    rw [ltL, Bool.or_eq_true, Bool.and_eq_true, decide_eq_true_eq, decide_eq_true_eq] at h1 h2 ⊢
    rcases h1 with h1 | ⟨e1, h1⟩
    · rcases h2 with h2 | ⟨e2, h2⟩
      · left; omega
      · left; omega
    · rcases h2 with h2 | ⟨e2, h2⟩
      · left; omega
      · exact .inr ⟨by omega, ltL_trans a b c h1 h2⟩
theorem ltL_tot : ∀ a b : List Int, a = b ∨ ltL a b = true ∨ ltL b a = true
  | [], [] => .inl rfl
  | [], _ :: _ => .inr (.inl rfl)
  | _ :: _, [] => .inr (.inr rfl)
  | x :: a, y :: b => by
    rw [ltL, ltL]
    simp only [Bool.or_eq_true, Bool.and_eq_true, decide_eq_true_eq]
    rcases Int.lt_trichotomy x y with h | h | h
    · exact .inr (.inl (.inl h))
    · subst h
      rcases ltL_tot a b with h | h | h
      · exact .inl (by rw [h])
      · exact .inr (.inl (.inr ⟨rfl, h⟩))
      · exact .inr (.inr (.inr ⟨rfl, h⟩))
    · exact .inr (.inr (.inl h))
theorem cmp_int (x y : Int) : cmp_Compare_int x y = some (if x < y then -1 else if x > y then 1 else 0) := by
  unfold cmp_Compare_int cmp_isNaN_int
  rw [bne_self_eq_false, bne_self_eq_false, Option.bind_some, Option.bind_some, if_neg (by decide), if_neg (by decide)]
  by_cases h : x < y
  · rw [if_pos h, if_pos (decide_eq_true h)]
  · rw [if_neg h, if_neg (by simpa using h)]
    by_cases h2 : x > y
    · rw [if_pos h2, if_pos (decide_eq_true h2)]
    · rw [if_neg h2, if_neg (by simpa using h2)]
theorem cmp_l0 {a b : List Int} (ha : a.length ≤ 100000) (hb : b.length ≤ 100000) : ∀ (d x k : Nat), x + d = a.length → d < k → x ≤ b.length →
    (∃ r : Int, slices_Compare_int_int.l0 k x a b = some (.inl r) ∧ (r < 0 ↔ ltL (a.drop x) (b.drop x) = true) ∧ r ≠ 0 ∧ a.drop x ≠ b.drop x) ∨ (slices_Compare_int_int.l0 k x a b = some (.inr ()) ∧ (a.length < b.length ↔ ltL (a.drop x) (b.drop x) = true) ∧ (a.drop x = b.drop x ↔ ¬ a.length < b.length))
  | 0, x, k, e, hk, hx => by
    obtain ⟨k, rfl⟩ : ∃ m, k = m + 1 := ⟨k - 1, by omega⟩
    rw [List.drop_of_length_le (l := a) (by omega), slices_Compare_int_int.l0, if_neg (by simp; omega)]
    refine .inr ⟨rfl, ?_, ?_⟩
    · cases h : b.drop x with
      | nil =>
        have := congrArg List.length h
        rw [List.length_drop, List.length_nil] at this
        exact ⟨fun h => by omega, fun h => by cases h⟩
      | cons y l =>
        have := congrArg List.length h
        rw [List.length_drop, List.length_cons] at this
        exact ⟨fun _ => rfl, fun _ => by omega⟩
    · constructor
      · intro h
        have := congrArg List.length h
        rw [List.length_drop, List.length_nil] at this
        omega
      · intro h
        rw [List.drop_of_length_le (by omega)]
  | d + 1, x, k, e, hk, hx => by
    obtain ⟨k, rfl⟩ : ∃ m, k = m + 1 := ⟨k - 1, by omega⟩
    have hxa : x < a.length := by omega
    have hwx : w64 ((x : Int) + 1) = ((x + 1 : Nat) : Int) := by rw [w64_id (by omega) (by omega)]; rfl
    rw [slices_Compare_int_int.l0, if_pos (by simpa using hxa), if_pos (by omega), List.drop_eq_getElem_cons hxa]
    by_cases hxb : x < b.length
    · rw [if_neg (by rw [decide_eq_true_eq]; omega), if_pos (by omega), rdD_get hxa, rdD_get hxb, cmp_int, Option.bind_some, hwx, List.drop_eq_getElem_cons hxb, ltL]
      rcases Int.lt_trichotomy a[x] b[x] with h | h | h
      · have hv : (if a[x] < b[x] then (-1 : Int) else if a[x] > b[x] then 1 else 0) = -1 := if_pos h
        rw [hv, if_pos (by decide)]
        refine .inl ⟨-1, rfl, ?_, by omega, fun h2 => ?_⟩
        · simp [h]
        · injection h2 with h2 _; omega
      · have hv : (if a[x] < b[x] then (-1 : Int) else if a[x] > b[x] then 1 else 0) = 0 := by rw [if_neg (by omega), if_neg (by omega)]
        rw [hv, if_neg (by decide)]
        rcases cmp_l0 ha hb d (x + 1) k (by omega) (by omega) (by omega) with ⟨r, g1, g2, g3, g4⟩ | ⟨g1, g2, g3⟩
        · refine .inl ⟨r, g1, ?_, g3, fun h2 => ?_⟩
          · rw [g2]; simp [h]
          · injection h2 with _ h2; exact g4 h2
        · refine .inr ⟨g1, ?_, ?_⟩
          · rw [g2]; simp [h]
          · rw [← g3, h]
            exact ⟨fun h => (by injection h), fun h => by rw [h]⟩
      · have hv : (if a[x] < b[x] then (-1 : Int) else if a[x] > b[x] then 1 else 0) = 1 := by rw [if_neg (by omega), if_pos h]
        rw [hv, if_pos (by decide)]
        refine .inl ⟨1, rfl, ?_, by omega, fun h2 => ?_⟩
        · simp only [Bool.or_eq_true, Bool.and_eq_true, decide_eq_true_eq]
          exact ⟨fun h => by omega, fun h => by omega⟩
        · injection h2 with h2 _; omega
    · rw [if_pos (by rw [decide_eq_true_eq]; omega)]
      refine .inl ⟨1, rfl, ?_, by omega, fun h2 => ?_⟩
      · rw [List.drop_of_length_le (l := b) (by omega), ltL]; simp
      · rw [List.drop_of_length_le (l := b) (by omega)] at h2; cases h2
theorem compare_eq {a b : List Int} (ha : a.length ≤ 100000) (hb : b.length ≤ 100000) {k : Nat} (hk : 200000 < k) : ∃ r : Int, slices_Compare_int_int k a b = some r ∧ (r < 0 ↔ ltL a b = true) ∧ (r = 0 ↔ a = b) := by
  have h := cmp_l0 ha hb a.length 0 k (by omega) (by omega) (by omega)
  rw [List.drop_zero, List.drop_zero] at h
  have h : (∃ r : Int, slices_Compare_int_int.l0 k 0 a b = some (.inl r) ∧ _ ∧ _ ∧ _) ∨ (slices_Compare_int_int.l0 k 0 a b = some (.inr ()) ∧ _ ∧ _) := h
  unfold slices_Compare_int_int
  rcases h with ⟨r, h1, h2, h3, h4⟩ | ⟨h1, h2, h3⟩
  · rw [h1]
    exact ⟨r, rfl, h2, fun h => absurd h h3, fun h => absurd h h4⟩
  · rw [h1]
    by_cases hl : a.length < b.length
    · refine ⟨-1, ?_, ⟨fun _ => h2.1 hl, fun _ => by omega⟩, fun h => by omega, fun h => absurd hl (h3.1 h)⟩
      show (if decide _ = true then _ else _) = _
      rw [if_pos (by rw [decide_eq_true_eq]; omega)]
    · refine ⟨0, ?_, ⟨fun h => by omega, fun h => absurd (h2.2 h) hl⟩, fun _ => h3.2 hl, fun _ => rfl⟩
      show (if decide _ = true then _ else _) = _
      rw [if_neg (by rw [decide_eq_true_eq]; omega)]
def befB (a b : List Tile) : Bool := ltL (numL a) (numL b)
theorem before_eq {a b : List Tile} (ha : a.length ≤ 1000) (hb : b.length ≤ 1000) {k : Nat} (hk : 200000 < k) : ∃ r : Int, census_before k a b = some r ∧ (r < 0 ↔ befB a b = true) ∧ (r = 0 ↔ a = b) := by
  obtain ⟨r, h1, h2, h3⟩ := compare_eq (a := numL a) (b := numL b) (by rw [numL_len]; omega) (by rw [numL_len]; omega) hk
  refine ⟨r, ?_, h2, h3.trans ⟨numL_inj, fun h => by rw [h]⟩⟩
  unfold census_before
  rw [numbers_eq ha (by omega), numbers_eq hb (by omega), Option.bind_some, Option.bind_some, h1]; rfl
/-! ### orders, the least form -/
def ordL : List Tile → List (List Tile)
  | [] => [[]]
  | [a] => [[a]]
  | [a, b] => [[a, b], [b, a]]
  | [a, b, c] => [[a, b, c], [a, c, b], [b, a, c], [b, c, a], [c, b, a], [c, a, b]]
  | _ => []
def minF (m y : List Tile) : List Tile := if befB (rn y) m = true then rn y else m
def canF (s : List Tile) : List Tile := match ordL s with
  | [] => []
  | x :: xs => xs.foldl minF (rn x)
theorem step_b1 {x l : List Tile} {b : Bool} (hx : x.length ≤ 1000) (hl : l.length ≤ 1000) (h : b = false → l ≠ []) {k : Nat} (hk : 200000 < k) : census_least.b1 k x ((b, l), 0) = some (((false, if b = true then rn x else minF l x), 0), true) := by
  unfold census_least.b1
  show (if (0 : Int) = 0 then _ else none) = _
  rw [if_pos rfl, renamed_eq hx (by omega), Option.bind_some]
  unfold nilM
  cases b
  · rw [if_neg (by decide), if_neg (by rw [List.isEmpty_iff]; exact h rfl)]
    obtain ⟨r, h1, h2, _⟩ := before_eq (a := rn x) (b := l) (by rw [rn_len]; exact hx) hl hk
    rw [h1, Option.bind_some]
    unfold minF
    by_cases hb : befB (rn x) l = true
    · rw [if_pos (decide_eq_true (h2.2 hb)), if_pos hb]; rfl
    · rw [if_neg (by rw [decide_eq_true_eq, h2]; exact hb), if_neg hb]; rfl
  · rw [if_pos rfl, if_pos rfl]
end Gp
set_option linter.unusedVariables false
set_option linter.unusedSimpArgs false
namespace Gp
open Gw Gq
section
variable {σ : Type} {yf : List Tile → σ → Option (σ × Bool)}
theorem ord_end {l : List Tile} {n : Int} (hn : n = (l.length : Int)) {s t : σ} (h : yf l s = some (t, true)) (k : Nat) : census_orders_1_1_y (k + 1) n l yf s = some (true, l, t) := by
  rw [census_orders_1_1_y, if_pos (by rw [hn]; exact beq_self_eq_true _), h]; rfl
theorem l0_end {l : List Tile} {x p : Int} (hx : x = (l.length : Int)) (s : σ) (rc : Int → List Tile → (List Tile → σ → Option (σ × Bool)) → σ → Option (Bool × List Tile × σ)) (k : Nat) : census_orders_1_1_y.l0 (k + 1) l x s p yf rc = some (.inr (l, s)) := by
  rw [census_orders_1_1_y.l0, if_neg (by rw [decide_eq_true_eq]; omega)]
def swp (l : List Tile) (p x : Nat) : List Tile := (l.set p (rdD l (x : Int) z_Tile)).set x (rdD l (p : Int) z_Tile)
theorem l0_step {l m : List Tile} {p x : Nat} (hp : p < l.length) (hx : x < l.length) (hm : m.length = l.length) (hl : l.length ≤ 100) {s t : σ} {rc : Int → List Tile → (List Tile → σ → Option (σ × Bool)) → σ → Option (Bool × List Tile × σ)} (h : rc ((p + 1 : Nat) : Int) (swp l p x) yf s = some (true, m, t)) (k : Nat) : census_orders_1_1_y.l0 (k + 1) l (x : Int) s (p : Int) yf rc = census_orders_1_1_y.l0 k (swp m p x) ((x + 1 : Nat) : Int) t (p : Int) yf rc := by
  have hwx : w64 ((x : Int) + 1) = ((x + 1 : Nat) : Int) := by rw [w64_id (by omega) (by omega)]; rfl
  have hwp : w64 ((p : Int) + 1) = ((p + 1 : Nat) : Int) := by rw [w64_id (by omega) (by omega)]; rfl
  rw [census_orders_1_1_y.l0, if_pos (by simpa using hx), if_pos (by omega), if_pos (by omega), if_pos (by rw [List.length_set]; omega), hwp, hwx, Int.toNat_natCast, Int.toNat_natCast]
  have h : rc ((p + 1 : Nat) : Int) ((l.set p (rdD l (x : Int) z_Tile)).set x (rdD l (p : Int) z_Tile)) yf s = some (true, m, t) := h
  rw [h, Option.bind_some]
  simp only
  rw [if_pos (by omega), if_pos (by omega), if_pos (by rw [List.length_set]; omega), if_neg (by decide)]
  rfl
theorem ord_go {l : List Tile} {p : Int} (hp : p ≠ (l.length : Int)) {s t : σ} {k : Nat} (h : census_orders_1_1_y.l0 k l p s p yf (census_orders_1_1_y k) = some (.inr (l, t))) : census_orders_1_1_y (k + 1) p l yf s = some (true, l, t) := by
  rw [census_orders_1_1_y, if_neg (by rw [beq_iff_eq]; exact hp), h]; rfl
theorem ord1 {a : Tile} {s t : σ} (h : yf [a] s = some (t, true)) (k : Nat) : census_orders_1_1_y (k + 4) 0 [a] yf s = some (true, [a], t) := by
  refine ord_go (by show (0 : Int) ≠ 1; decide) ?_
  have e := l0_step (l := [a]) (m := [a]) (p := 0) (x := 0) (yf := yf) (rc := census_orders_1_1_y (k + 3)) (by simp) (by simp) rfl (by simp) (ord_end (l := [a]) (n := 1) rfl h _) (k + 2)
  exact e.trans (l0_end rfl _ _ _)
theorem o2_1 {a b : Tile} {s t : σ} (h : yf [a, b] s = some (t, true)) (k : Nat) : census_orders_1_1_y (k + 4) 1 [a, b] yf s = some (true, [a, b], t) := by
  refine ord_go (by show (1 : Int) ≠ 2; decide) ?_
  have e := l0_step (l := [a, b]) (m := [a, b]) (p := 1) (x := 1) (yf := yf) (rc := census_orders_1_1_y (k + 3)) (by simp) (by simp) rfl (by simp) (ord_end (l := [a, b]) (n := 2) rfl h _) (k + 2)
  exact e.trans (l0_end rfl _ _ _)
theorem ord2 {a b : Tile} {s t u : σ} (h1 : yf [a, b] s = some (t, true)) (h2 : yf [b, a] t = some (u, true)) (k : Nat) : census_orders_1_1_y (k + 6) 0 [a, b] yf s = some (true, [a, b], u) := by
  refine ord_go (by show (0 : Int) ≠ 2; decide) ?_
  have e1 := l0_step (l := [a, b]) (m := [a, b]) (p := 0) (x := 0) (yf := yf) (rc := census_orders_1_1_y (k + 5)) (by simp) (by simp) rfl (by simp) (o2_1 h1 (k + 1)) (k + 4)
  have e2 := l0_step (l := [a, b]) (m := [b, a]) (p := 0) (x := 1) (yf := yf) (rc := census_orders_1_1_y (k + 5)) (by simp) (by simp) rfl (by simp) (o2_1 h2 (k + 1)) (k + 3)
  exact e1.trans (e2.trans (l0_end rfl _ _ _))
theorem o3_2 {a b c : Tile} {s t : σ} (h : yf [a, b, c] s = some (t, true)) (k : Nat) : census_orders_1_1_y (k + 4) 2 [a, b, c] yf s = some (true, [a, b, c], t) := by
  refine ord_go (by show (2 : Int) ≠ 3; decide) ?_
  have e := l0_step (l := [a, b, c]) (m := [a, b, c]) (p := 2) (x := 2) (yf := yf) (rc := census_orders_1_1_y (k + 3)) (by simp) (by simp) rfl (by simp) (ord_end (l := [a, b, c]) (n := 3) rfl h _) (k + 2)
  exact e.trans (l0_end rfl _ _ _)
theorem o3_1 {a b c : Tile} {s t u : σ} (h1 : yf [a, b, c] s = some (t, true)) (h2 : yf [a, c, b] t = some (u, true)) (k : Nat) : census_orders_1_1_y (k + 6) 1 [a, b, c] yf s = some (true, [a, b, c], u) := by
  refine ord_go (by show (1 : Int) ≠ 3; decide) ?_
  have e1 := l0_step (l := [a, b, c]) (m := [a, b, c]) (p := 1) (x := 1) (yf := yf) (rc := census_orders_1_1_y (k + 5)) (by simp) (by simp) rfl (by simp) (o3_2 h1 (k + 1)) (k + 4)
  have e2 := l0_step (l := [a, b, c]) (m := [a, c, b]) (p := 1) (x := 2) (yf := yf) (rc := census_orders_1_1_y (k + 5)) (by simp) (by simp) rfl (by simp) (o3_2 h2 (k + 1)) (k + 3)
  exact e1.trans (e2.trans (l0_end rfl _ _ _))
theorem ord3 {a b c : Tile} {s0 s1 s2 s3 s4 s5 s6 : σ} (h1 : yf [a, b, c] s0 = some (s1, true)) (h2 : yf [a, c, b] s1 = some (s2, true)) (h3 : yf [b, a, c] s2 = some (s3, true)) (h4 : yf [b, c, a] s3 = some (s4, true)) (h5 : yf [c, b, a] s4 = some (s5, true)) (h6 : yf [c, a, b] s5 = some (s6, true)) (k : Nat) : census_orders_1_1_y (k + 8) 0 [a, b, c] yf s0 = some (true, [a, b, c], s6) := by
  refine ord_go (by show (0 : Int) ≠ 3; decide) ?_
  have e1 := l0_step (l := [a, b, c]) (m := [a, b, c]) (p := 0) (x := 0) (yf := yf) (rc := census_orders_1_1_y (k + 7)) (by simp) (by simp) rfl (by simp) (o3_1 h1 h2 (k + 1)) (k + 6)
  have e2 := l0_step (l := [a, b, c]) (m := [b, a, c]) (p := 0) (x := 1) (yf := yf) (rc := census_orders_1_1_y (k + 7)) (by simp) (by simp) rfl (by simp) (o3_1 h3 h4 (k + 1)) (k + 5)
  have e3 := l0_step (l := [a, b, c]) (m := [c, b, a]) (p := 0) (x := 2) (yf := yf) (rc := census_orders_1_1_y (k + 7)) (by simp) (by simp) rfl (by simp) (o3_1 h5 h6 (k + 1)) (k + 4)
  exact e1.trans (e2.trans (e3.trans (l0_end rfl _ _ _)))
end
theorem minF_ne {m y : List Tile} (hm : m ≠ []) (hy : y ≠ []) : minF m y ≠ [] := by
  unfold minF
  split
  · intro h
    have := congrArg List.length h
    rw [rn_len] at this
    exact hy (List.eq_nil_of_length_eq_zero this)
  · exact hm
theorem minF_len {m y : List Tile} {n : Nat} (hm : m.length ≤ n) (hy : y.length ≤ n) : (minF m y).length ≤ n := by
  unfold minF
  split
  · rw [rn_len]; exact hy
  · exact hm
theorem rn_ne {y : List Tile} (hy : y ≠ []) : rn y ≠ [] := fun h => by
  have := congrArg List.length h
  rw [rn_len] at this
  exact hy (List.eq_nil_of_length_eq_zero this)
theorem b1_first (x : List Tile) (hx : x.length ≤ 3) {k : Nat} (hk : 200000 < k) : census_least.b1 k x ((true, []), 0) = some (((false, rn x), 0), true) := by
  have := step_b1 (x := x) (l := []) (b := true) (by omega) (by simp) (fun h => by cases h) hk
  rw [if_pos rfl] at this; exact this
theorem b1_next {x l : List Tile} (hx : x.length ≤ 3) (hl : l.length ≤ 3) (h : l ≠ []) {k : Nat} (hk : 200000 < k) : census_least.b1 k x ((false, l), 0) = some (((false, minF l x), 0), true) := by
  have := step_b1 (x := x) (l := l) (b := false) (by omega) (by omega) (fun _ => h) hk
  rw [if_neg (by decide)] at this; exact this
theorem orders_y {σ : Type} {s : List Tile} {yf : List Tile → σ → Option (σ × Bool)} {a b : σ} (hs : s.length ≤ 1000) {k : Nat} (h : census_orders_1_1_y k 0 s yf a = some (true, s, b)) : census_orders_1_y k s yf a = some b := by
  have hc : slices_Clone_api_Tile_api_Tile s = some s := by
    show (if ([] : List Tile).length + s.length ≤ 100000000000 then some ([] ++ s) else none) = _
    rw [if_pos (by rw [List.length_nil]; omega), List.nil_append]
  unfold census_orders_1_y
  rw [hc, Option.bind_some, h]; rfl
theorem canF3 (a b c : Tile) : canF [a, b, c] = minF (minF (minF (minF (minF (rn [a, b, c]) [a, c, b]) [b, a, c]) [b, c, a]) [c, b, a]) [c, a, b] := by
  unfold canF ordL
  simp only [List.foldl_cons, List.foldl_nil]
theorem least_eqN {s : List Tile} (hs : s.length ≤ 3) (k : Nat) : census_least (k + 300000) s = some (canF s) := by
  have key : ∀ r, census_orders_1_y (k + 300000) s (census_least.b1 (k + 300000)) ((true, []), 0) = some ((false, r), 0) → census_least (k + 300000) s = some r := fun r h => by
    unfold census_least
    show ((census_orders_1_y (k + 300000) s (census_least.b1 (k + 300000)) ((true, []), 0)).bind _) = _
    rw [h]; rfl
  refine key _ (orders_y (by omega) ?_)
  match s, hs with
  | [], _ => exact ord_end rfl (b1_first [] (by simp) (by omega)) (k + 299999)
  | [a], _ => exact ord1 (b1_first [a] (by simp) (by omega)) (k + 299996)
  | [a, b], _ =>
    exact ord2 (b1_first [a, b] (by simp) (by omega)) (b1_next (by simp) (by rw [rn_len]; simp) (rn_ne (by simp)) (by omega)) (k + 299994)
  | [a, b, c], _ =>
    have l1 : (rn [a, b, c]).length ≤ 3 := by rw [rn_len]; simp
    have n1 : rn [a, b, c] ≠ [] := rn_ne (by simp)
    have l2 := minF_len (y := [a, c, b]) l1 (by simp)
    have n2 := minF_ne (y := [a, c, b]) n1 (by simp)
    have l3 := minF_len (y := [b, a, c]) l2 (by simp)
    have n3 := minF_ne (y := [b, a, c]) n2 (by simp)
    have l4 := minF_len (y := [b, c, a]) l3 (by simp)
    have n4 := minF_ne (y := [b, c, a]) n3 (by simp)
    have l5 := minF_len (y := [c, b, a]) l4 (by simp)
    have n5 := minF_ne (y := [c, b, a]) n4 (by simp)
    have h1 := b1_first [a, b, c] (by simp) (k := k + 300000) (by omega)
    have h2 := b1_next (x := [a, c, b]) (by simp) l1 n1 (k := k + 300000) (by omega)
    have h3 := b1_next (x := [b, a, c]) (by simp) l2 n2 (k := k + 300000) (by omega)
    have h4 := b1_next (x := [b, c, a]) (by simp) l3 n3 (k := k + 300000) (by omega)
    have h5 := b1_next (x := [c, b, a]) (by simp) l4 n4 (k := k + 300000) (by omega)
    have h6 := b1_next (x := [c, a, b]) (by simp) l5 n5 (k := k + 300000) (by omega)
    have h := ord3 h1 h2 h3 h4 h5 h6 (k + 299992)
    rw [show canF [a, b, c] = minF (minF (minF (minF (minF (rn [a, b, c]) [a, c, b]) [b, a, c]) [b, c, a]) [c, b, a]) [c, a, b] from canF3 a b c]
    rw [show k + 299992 + 8 = k + 300000 from rfl] at h
    exact h
/-! the least one, whatever the order -/
theorem fold_min : ∀ (L : List (List Tile)) (m : List Tile), (L.foldl minF m = m ∨ ∃ y ∈ L, L.foldl minF m = rn y) ∧ befB m (L.foldl minF m) = false ∧ ∀ y ∈ L, befB (rn y) (L.foldl minF m) = false
  | [], m => ⟨.inl rfl, ltL_irr _, fun y h => by cases h⟩
  | x :: L, m => by
    rw [List.foldl_cons]
    obtain ⟨h1, h2, h3⟩ := fold_min L (minF m x)
    have hle : befB m (L.foldl minF (minF m x)) = false ∧ befB (rn x) (L.foldl minF (minF m x)) = false := by
      by_cases hb : befB (rn x) m = true
      · have e : minF m x = rn x := by unfold minF; rw [if_pos hb]
        rw [e] at h2 ⊢
        refine ⟨?_, h2⟩
        cases hm : befB m (L.foldl minF (rn x))
        · rfl
        · have := ltL_trans _ _ _ hb hm
          rw [show ltL (numL (rn x)) (numL (L.foldl minF (rn x))) = befB (rn x) (L.foldl minF (rn x)) from rfl, h2] at this
          cases this
      · have e : minF m x = m := by unfold minF; rw [if_neg hb]
        rw [e] at h2 ⊢
        refine ⟨h2, ?_⟩
        cases hm : befB (rn x) (L.foldl minF m)
        · rfl
        · exfalso
          rcases ltL_tot (numL m) (numL (L.foldl minF m)) with h | h | h
          · have hm : ltL (numL (rn x)) (numL (L.foldl minF m)) = true := hm
            rw [← h] at hm; exact hb hm
          · have h2 : ltL (numL m) (numL (L.foldl minF m)) = false := h2
            rw [h2] at h; cases h
          · exact hb (ltL_trans _ _ _ hm h)
    refine ⟨?_, hle.1, fun y hy => ?_⟩
    · rcases h1 with h1 | ⟨y, hy, h1⟩
      · rw [h1]
        unfold minF
        split
        · exact .inr ⟨x, List.mem_cons_self, rfl⟩
        · exact .inl rfl
      · exact .inr ⟨y, List.mem_cons_of_mem _ hy, h1⟩
    · rcases List.mem_cons.1 hy with rfl | hy
      · exact hle.2
      · exact h3 y hy
theorem canF_spec {s : List Tile} (hs : s.length ≤ 3) : (∃ y ∈ ordL s, canF s = rn y) ∧ ∀ y ∈ ordL s, befB (rn y) (canF s) = false := by
  unfold canF
  cases h : ordL s with
  | nil => match s, hs, h with
    | [], _, h => cases h
    | [_], _, h => cases h
    | [_, _], _, h => cases h
    | [_, _, _], _, h => cases h
  | cons x xs =>
    obtain ⟨h1, h2, h3⟩ := fold_min xs (rn x)
    refine ⟨?_, fun y hy => ?_⟩
    · rcases h1 with h1 | ⟨y, hy, h1⟩
      · exact ⟨x, List.mem_cons_self, h1⟩
      · exact ⟨y, List.mem_cons_of_mem _ hy, h1⟩
    · rcases List.mem_cons.1 hy with rfl | hy
      · exact h2
      · exact h3 y hy
theorem canF_same {s s' : List Tile} (hs : s.length ≤ 3) (hs' : s'.length ≤ 3) (h1 : ∀ y ∈ ordL s, ∃ z ∈ ordL s', rn y = rn z) (h2 : ∀ z ∈ ordL s', ∃ y ∈ ordL s, rn z = rn y) : canF s = canF s' := by
  obtain ⟨⟨y, hy, ey⟩, my⟩ := canF_spec hs
  obtain ⟨⟨z, hz, ez⟩, mz⟩ := canF_spec hs'
  obtain ⟨z', hz', e1⟩ := h1 y hy
  obtain ⟨y', hy', e2⟩ := h2 z hz
  have a1 := mz z' hz'
  have a2 := my y' hy'
  rw [← e1, ← ey] at a1
  rw [← e2, ← ez] at a2
  rcases ltL_tot (numL (canF s)) (numL (canF s')) with h | h | h
  · exact numL_inj h
  · have a1 : ltL (numL (canF s)) (numL (canF s')) = false := a1
    rw [a1] at h; cases h
  · have a2 : ltL (numL (canF s')) (numL (canF s)) = false := a2
    rw [a2] at h; cases h
theorem ordL_map (f : Tile → Tile) {s : List Tile} (hs : s.length ≤ 3) : ordL (s.map f) = (ordL s).map (List.map f) := by
  match s, hs with
  | [], _ => rfl
  | [_], _ => rfl
  | [_, _], _ => rfl
  | [_, _, _], _ => rfl
theorem ordL_mem {s y : List Tile} (hs : s.length ≤ 3) (h : y ∈ ordL s) : y.Perm s := by
  match s, hs with
  | [], _ => have h : y ∈ [[]] := h; rw [List.mem_singleton] at h; rw [h]
  | [a], _ => have h : y ∈ [[a]] := h; rw [List.mem_singleton] at h; rw [h]
  | [a, b], _ =>
    have h : y ∈ [[a, b], [b, a]] := h
    simp only [List.mem_cons, List.not_mem_nil, or_false] at h
    rcases h with rfl | rfl
    · exact List.Perm.refl _
    · exact List.Perm.swap _ _ _
  | [a, b, c], _ =>
    have h : y ∈ [[a, b, c], [a, c, b], [b, a, c], [b, c, a], [c, b, a], [c, a, b]] := h
    simp only [List.mem_cons, List.not_mem_nil, or_false] at h
    rcases h with rfl | rfl | rfl | rfl | rfl | rfl
    · exact List.Perm.refl _
    · exact (List.Perm.swap _ _ _).cons _
    · exact List.Perm.swap _ _ _
    · exact ((List.Perm.swap _ _ _).cons _).trans (List.Perm.swap _ _ _)
    · exact (List.Perm.swap _ _ _).trans (((List.Perm.swap _ _ _).cons _).trans (List.Perm.swap _ _ _))
    · exact (List.Perm.swap _ _ _).trans ((List.Perm.swap _ _ _).cons _)
end Gp
set_option linter.unusedVariables false
set_option linter.unusedSimpArgs false
namespace Gp
open Gw Gq
theorem vN_iff (s : List Tile) : validT s = true ↔ s.length ≤ 1000 ∧ s.Nodup ∧ ∀ t ∈ s, colB t = true := by
  unfold validT
  simp only [Bool.and_eq_true, decide_eq_true_eq, List.all_eq_true, List.mem_range]
  have hg : ∀ i (h : i < s.length), s.getD i z_Tile = s[i] := fun i h => by simp [List.getElem?_eq_getElem h]
  refine and_congr_right fun _ => ⟨fun h => ⟨?_, fun t ht => ?_⟩, fun h i hi => ?_⟩
  · rw [List.Nodup, List.pairwise_iff_getElem]
    intro i j hi hj hij he
    have := h j hj
    unfold newB at this
    rw [hg j hj, Bool.and_eq_true, Bool.not_eq_true', decide_eq_false_iff_not] at this
    exact this.1 (by rw [← he]; exact List.mem_take_iff_getElem.2 ⟨i, by omega, rfl⟩)
  · obtain ⟨i, hi, rfl⟩ := List.getElem_of_mem ht
    have := h i hi
    unfold newB at this
    rw [hg i hi, Bool.and_eq_true] at this
    exact this.2
  · unfold newB
    rw [hg i hi, h.2 _ (List.getElem_mem hi), Bool.and_true, Bool.not_eq_true', decide_eq_false_iff_not]
    intro hm
    obtain ⟨j, hj, he⟩ := List.mem_take_iff_getElem.1 hm
    have := h.1
    rw [List.Nodup, List.pairwise_iff_getElem] at this
    exact this j i (by omega) hi (by omega) he
theorem colB_iff (t : Tile) : colB t = true ↔ ((0 ≤ t.N ∧ t.N < 1000) ∧ (0 ≤ t.S ∧ t.S < 1000)) ∧ (0 ≤ t.E ∧ t.E < 1000) ∧ 0 ≤ t.W ∧ t.W < 1000 := by
  unfold colB inCol
  simp only [Bool.and_eq_true, decide_eq_true_eq]
  constructor <;> intro h <;> omega
theorem nodup_map {f : Tile → Tile} {s : List Tile} (h : s.Nodup) (hf : ∀ a ∈ s, ∀ b ∈ s, f a = f b → a = b) : (s.map f).Nodup := by
  rw [List.Nodup, List.pairwise_map]
  exact List.Pairwise.imp_of_mem (fun ha hb hne he => hne (hf _ ha _ hb he)) h
/-! fillings of renamed sets -/
theorem canF_len {s : List Tile} (hs : s.length ≤ 3) : (canF s).length = s.length := by
  obtain ⟨⟨y, hy, e⟩, _⟩ := canF_spec hs
  rw [e, rn_len, (ordL_mem hs hy).length_eq]
theorem rn_valid {y : List Tile} (hn : y.Nodup) (hl : y.length ≤ 3) : validT (rn y) = true := by
  obtain ⟨U, V, h1, h2, h3, h4⟩ := rn_form y
  rw [h2, vN_iff]
  refine ⟨by rw [List.length_map]; omega, nodup_map hn fun a ha b hb e => ?_, fun t ht => ?_⟩
  · obtain ⟨⟨a1, a2⟩, a3, a4⟩ := h1 a ha
    obtain ⟨⟨b1, b2⟩, b3, b4⟩ := h1 b hb
    cases a; cases b
    unfold rT at e
    simp only [Tile.mk.injEq] at e
    obtain ⟨e1, e2, e3, e4⟩ := e
    rw [Tile.mk.injEq]
    exact ⟨ixM_inj a1 b1 e1, ixM_inj a3 b3 e2, ixM_inj a2 b2 e3, ixM_inj a4 b4 e4⟩
  · obtain ⟨u, hu, rfl⟩ := List.mem_map.1 ht
    obtain ⟨⟨a1, a2⟩, a3, a4⟩ := h1 u hu
    rw [colB_iff]
    have q1 := List.idxOf_lt_length_of_mem a1
    have q2 := List.idxOf_lt_length_of_mem a2
    have q3 := List.idxOf_lt_length_of_mem a3
    have q4 := List.idxOf_lt_length_of_mem a4
    unfold rT ixM
    simp only
    omega
theorem canF_valid {s : List Tile} (hv : validT s = true) (hs : s.length ≤ 3) : validT (canF s) = true := by
  obtain ⟨⟨y, hy, e⟩, _⟩ := canF_spec hs
  have hp := ordL_mem hs hy
  rw [e]
  exact rn_valid (hp.nodup_iff.2 ((vN_iff s).1 hv).2.1) (by rw [hp.length_eq]; exact hs)
end Gp
set_option linter.unusedVariables false
set_option linter.unusedSimpArgs false
namespace Gp
open Gw Gq
/-! ### words: lists of numbers in the order in which they are met -/
def exF (e : Nat → List (List Int)) (met x : Nat) : Nat → List (List Int)
  | 0 => []
  | d + 1 => (e (max met (x + 1))).map (fun l => (x : Int) :: l) ++ exF e met (x + 1) d
def exL : Nat → Nat → List (List Int)
  | 0, _ => [[]]
  | m + 1, met => exF (exL m) met 0 (met + 1)
def RunsTo {α σ : Type} (yf : α → σ → Option (σ × Bool)) : List α → σ → σ → Prop
  | [], s, t => s = t
  | x :: L, s, t => ∃ u, yf x s = some (u, true) ∧ RunsTo yf L u t
theorem runs_app {α σ : Type} {yf : α → σ → Option (σ × Bool)} : ∀ (L M : List α) (s t : σ), RunsTo yf (L ++ M) s t → ∃ u, RunsTo yf L s u ∧ RunsTo yf M u t
  | [], M, s, t, h => ⟨s, rfl, h⟩
  | x :: L, M, s, t, ⟨u, h1, h2⟩ => by
    obtain ⟨v, h3, h4⟩ := runs_app L M u t h2
    exact ⟨v, ⟨u, h1, h3⟩, h4⟩
theorem exF_mem {e : Nat → List (List Int)} {met : Nat} {l : List Int} : ∀ (d x : Nat), l ∈ exF e met x d ↔ ∃ y r, x ≤ y ∧ y < x + d ∧ r ∈ e (max met (y + 1)) ∧ l = (y : Int) :: r
  | 0, x => ⟨fun h => (by cases h), fun ⟨y, r, h1, h2, _⟩ => by omega⟩
  | d + 1, x => by
    rw [exF, List.mem_append, exF_mem d (x + 1), List.mem_map]
    constructor
    · rintro (⟨r, h1, rfl⟩ | ⟨y, r, h1, h2, h3, h4⟩)
      · exact ⟨x, r, Nat.le_refl _, by omega, h1, rfl⟩
      · exact ⟨y, r, by omega, by omega, h3, h4⟩
    · rintro ⟨y, r, h1, h2, h3, h4⟩
      by_cases e : y = x
      · subst e; exact .inl ⟨r, h3, h4.symm⟩
      · exact .inr ⟨y, r, by omega, by omega, h3, h4⟩
theorem exL_len : ∀ (m met : Nat) (l : List Int), l ∈ exL m met → l.length = m
  | 0, met, l, h => by rw [exL, List.mem_singleton] at h; rw [h]; rfl
  | m + 1, met, l, h => by
    rw [exL, exF_mem] at h
    obtain ⟨y, r, _, _, h3, rfl⟩ := h
    rw [List.length_cons, exL_len m _ r h3]
theorem exF_nodup {e : Nat → List (List Int)} {met : Nat} (he : ∀ q, (e q).Nodup) : ∀ (d x : Nat), (exF e met x d).Nodup
  | 0, x => List.nodup_nil
  | d + 1, x => by
    rw [exF, List.nodup_append]
    refine ⟨?_, exF_nodup he d (x + 1), ?_⟩
    · unfold List.Nodup
      rw [List.pairwise_map]
      exact (he _).imp fun h e => h (List.cons.inj e).2
    · intro a ha b hb e
      subst e
      obtain ⟨r, _, rfl⟩ := List.mem_map.1 ha
      obtain ⟨y, r', h1, _, _, h4⟩ := (exF_mem d (x + 1)).1 hb
      have := (List.cons.inj h4).1
      omega
theorem exL_nodup : ∀ (m met : Nat), (exL m met).Nodup
  | 0, met => by rw [exL]; simp
  | m + 1, met => by rw [exL]; exact exF_nodup (exL_nodup m) _ _
theorem take_set {l : List Int} {p : Nat} (h : p < l.length) (v : Int) : (l.set p v).take (p + 1) = l.take p ++ [v] := by
  have h2 : p < (l.set p v).length := by rw [List.length_set]; exact h
  rw [List.take_succ_eq_append_getElem h2, List.take_set_of_le (Nat.le_refl _), List.getElem_set_self]
theorem maxI_cast (a b : Nat) : maxI (a : Int) (b : Int) = ((max a b : Nat) : Int) := by
  unfold maxI
  split <;> omega
theorem words_go {σ : Type} {yf : List Int → σ → Option (σ × Bool)} {n : Nat} (hn : n ≤ 100) : ∀ (m p met k : Nat) (l : List Int) (s t : σ), p + m = n → l.length = n → met ≤ p → n + m + 3 < k → RunsTo yf ((exL m met).map fun r => l.take p ++ r) s t →
    ∃ l', census_words_1_1_y k p met n l yf s = some (true, t, l') ∧ l'.length = n ∧ l'.take p = l.take p
  | 0, p, met, k, l, s, t, hp, hl, hm, hk, hr => by
    obtain ⟨k, rfl⟩ : ∃ q, k = q + 1 := ⟨k - 1, by omega⟩
    have hpn : p = n := by omega
    subst hpn
    obtain ⟨u, h1, h2⟩ := hr
    have h2 : u = t := h2
    subst h2
    have h1 : yf (l.take p ++ []) s = some (u, true) := h1
    rw [List.append_nil, List.take_of_length_le (by omega)] at h1
    refine ⟨l, ?_, hl, rfl⟩
    rw [census_words_1_1_y, if_pos (by simp), h1]; rfl
  | m + 1, p, met, k, l, s, t, hp, hl, hm, hk, hr => by
    obtain ⟨k, rfl⟩ : ∃ q, k = q + 1 := ⟨k - 1, by omega⟩
    have key : ∀ (d x j : Nat) (l : List Int) (s : σ), x + d = met + 1 → d < j → l.length = n → RunsTo yf ((exF (exL m) met x d).map fun r => l.take p ++ r) s t →
        ∃ l', census_words_1_1_y.l0 j l x s p met n yf (census_words_1_1_y k) = some (.inr (l', t)) ∧ l'.length = n ∧ l'.take p = l.take p := by
      intro d
      induction d with
      | zero =>
        intro x j l s hx hj hl hr
        obtain ⟨j, rfl⟩ : ∃ q, j = q + 1 := ⟨j - 1, by omega⟩
        have hr : s = t := hr
        subst hr
        refine ⟨l, ?_, hl, rfl⟩
        rw [census_words_1_1_y.l0, if_neg (by rw [w64_id (by omega) (by omega), decide_eq_true_eq]; omega)]
      | succ d ih =>
        intro x j l s hx hj hl hr
        obtain ⟨j, rfl⟩ : ∃ q, j = q + 1 := ⟨j - 1, by omega⟩
        have hpl : p < l.length := by omega
        have hwp : w64 ((p : Int) + 1) = ((p + 1 : Nat) : Int) := by rw [w64_id (by omega) (by omega)]; rfl
        have hwx : w64 ((x : Int) + 1) = ((x + 1 : Nat) : Int) := by rw [w64_id (by omega) (by omega)]; rfl
        rw [exF, List.map_append] at hr
        obtain ⟨u, h1, h2⟩ := runs_app _ _ _ _ hr
        obtain ⟨l1, g1, g2, g3⟩ := words_go hn m (p + 1) (max met (x + 1)) k (l.set p (x : Int)) s u (by omega) (by rw [List.length_set]; exact hl) (by omega) (by omega) (by
          rw [take_set hpl]
          rw [List.map_map] at h1
          have e : ((fun r => List.take p l ++ r) ∘ fun l => (x : Int) :: l) = (fun r => List.take p l ++ [(x : Int)] ++ r) := by funext r; simp
          rw [e] at h1; exact h1)
        have g4 : l1.take p = l.take p := by
          have := congrArg (List.take p) g3
          rw [List.take_take, List.take_take, Nat.min_eq_left (by omega), List.take_set_of_le (Nat.le_refl _)] at this
          exact this
        obtain ⟨l2, f1, f2, f3⟩ := ih (x + 1) j l1 u (by omega) (by omega) g2 (by rw [g4]; exact h2)
        refine ⟨l2, ?_, f2, f3.trans g4⟩
        rw [census_words_1_1_y.l0, if_pos (by rw [w64_id (n := (met : Int) + 1) (by omega) (by omega), decide_eq_true_eq]; omega), if_pos (by omega), hwp, hwx, maxI_cast, Int.toNat_natCast, g1, Option.bind_some]
        rw [if_neg (by simp), f1]
    obtain ⟨l', h1, h2, h3⟩ := key (met + 1) 0 k l s (by omega) (by omega) hl hr
    refine ⟨l', ?_, h2, h3⟩
    have h1 : census_words_1_1_y.l0 k l 0 s p met n yf (census_words_1_1_y k) = _ := h1
    rw [census_words_1_1_y, if_neg (by simp; omega), h1]; rfl
theorem words_run {σ : Type} {yf : List Int → σ → Option (σ × Bool)} {n : Nat} (hn : n ≤ 100) {s t : σ} {k : Nat} (hk : 2 * n + 3 < k) (h : RunsTo yf (exL n 0) s t) : census_words_1_y k n yf s = some t := by
  obtain ⟨l', h1, _, _⟩ := words_go hn n 0 0 k (List.replicate n 0) s t (by omega) (by simp) (Nat.le_refl _) (by omega) (by
    have e : (fun r => List.take 0 (List.replicate n (0 : Int)) ++ r) = id := by funext r; simp
    rw [e, List.map_id]; exact h)
  have h1 : census_words_1_1_y k 0 0 n (List.replicate n 0) yf s = _ := h1
  unfold census_words_1_y
  rw [if_pos (by omega), Int.toNat_natCast, h1]; rfl
/-! the reference's words -/
theorem exL_many {n : Nat} (hn : n ≤ 3) : 0 < (exL (2 * n) 0).length ∧ (exL (2 * n) 0).length ≤ 203 := by
  have : n = 0 ∨ n = 1 ∨ n = 2 ∨ n = 3 := by omega
  rcases this with rfl | rfl | rfl | rfl <;> decide +kernel
end Gp
set_option linter.unusedVariables false
set_option linter.unusedSimpArgs false
namespace Gp
open Gw Gq
/-! ### sets of two words -/
def mkS : List Int → List Int → List Tile
  | a :: b :: u, c :: d :: v => ⟨a, c, b, d⟩ :: mkS u v
  | _, _ => []
def vertL (s : List Tile) : List Int := s.flatMap fun t => [t.N, t.S]
def horL (s : List Tile) : List Int := s.flatMap fun t => [t.E, t.W]
theorem mkS_all : ∀ (n : Nat) (u v : List Int), u.length = 2 * n → v.length = 2 * n → (mkS u v).length = n ∧ vertL (mkS u v) = u ∧ horL (mkS u v) = v
  | 0, u, v, hu, hv => by
    have hu := List.eq_nil_of_length_eq_zero (by omega : u.length = 0)
    have hv := List.eq_nil_of_length_eq_zero (by omega : v.length = 0)
    subst hu hv
    exact ⟨rfl, rfl, rfl⟩
  | n + 1, a :: b :: u, c :: d :: v, hu, hv => by
    obtain ⟨h1, h2, h3⟩ := mkS_all n u v (by simp only [List.length_cons] at hu; omega) (by simp only [List.length_cons] at hv; omega)
    rw [mkS]
    refine ⟨by rw [List.length_cons, h1], ?_, ?_⟩
    · show a :: b :: vertL (mkS u v) = _
      rw [h2]
    · show c :: d :: horL (mkS u v) = _
      rw [h3]
  | n + 1, [], v, hu, hv => by simp only [List.length_nil] at hu; omega
  | n + 1, [_], v, hu, hv => by simp only [List.length_cons, List.length_nil] at hu; omega
  | n + 1, _ :: _ :: _, [], hu, hv => by simp only [List.length_nil] at hv; omega
  | n + 1, _ :: _ :: _, [_], hu, hv => by simp only [List.length_cons, List.length_nil] at hv; omega
theorem mkS_drop {u v : List Int} {n x : Nat} (hu : u.length = 2 * n) (hv : v.length = 2 * n) (hx : x < n) : mkS (u.drop (2 * x)) (v.drop (2 * x)) = ⟨u[2 * x], v[2 * x], u[2 * x + 1], v[2 * x + 1]⟩ :: mkS (u.drop (2 * (x + 1))) (v.drop (2 * (x + 1))) := by
  rw [List.drop_eq_getElem_cons (l := u) (i := 2 * x) (by omega), List.drop_eq_getElem_cons (l := u) (i := 2 * x + 1) (by omega), List.drop_eq_getElem_cons (l := v) (i := 2 * x) (by omega), List.drop_eq_getElem_cons (l := v) (i := 2 * x + 1) (by omega), mkS]
  rfl
theorem mkS_end {u v : List Int} {n : Nat} (hu : u.length = 2 * n) : mkS (u.drop (2 * n)) (v.drop (2 * n)) = [] := by
  rw [List.drop_of_length_le (by omega)]; rfl
theorem set_l0 {u v : List Int} {n : Nat} (hu : u.length = 2 * n) (hv : v.length = 2 * n) (hn : n ≤ 1000) : ∀ (d x k : Nat) (acc : List Tile), x + d = n → d < k → acc.length = x → census_forms.l0 k acc x n u v = some (acc ++ mkS (u.drop (2 * x)) (v.drop (2 * x)))
  | 0, x, k, acc, e, hk, ha => by
    obtain ⟨k, rfl⟩ : ∃ m, k = m + 1 := ⟨k - 1, by omega⟩
    have hxn : x = n := by omega
    subst hxn
    rw [census_forms.l0, if_neg (by simp), mkS_end hu, List.append_nil]
  | d + 1, x, k, acc, e, hk, ha => by
    obtain ⟨k, rfl⟩ : ∃ m, k = m + 1 := ⟨k - 1, by omega⟩
    have hwx : w64 ((x : Int) + 1) = ((x + 1 : Nat) : Int) := by rw [w64_id (by omega) (by omega)]; rfl
    have hw2 : w64 (2 * (x : Int)) = ((2 * x : Nat) : Int) := by rw [w64_id (by omega) (by omega)]; rfl
    have hw3 : w64 (((2 * x : Nat) : Int) + 1) = ((2 * x + 1 : Nat) : Int) := by rw [w64_id (by omega) (by omega)]; rfl
    have r1 : rdD u ((2 * x : Nat) : Int) 0 = u[2 * x] := rdD_get (by omega) 0
    have r2 : rdD v ((2 * x : Nat) : Int) 0 = v[2 * x] := rdD_get (by omega) 0
    have r3 : rdD u ((2 * x + 1 : Nat) : Int) 0 = u[2 * x + 1] := rdD_get (by omega) 0
    have r4 : rdD v ((2 * x + 1 : Nat) : Int) 0 = v[2 * x + 1] := rdD_get (by omega) 0
    have ih := set_l0 hu hv hn d (x + 1) k (acc ++ [⟨u[2 * x], v[2 * x], u[2 * x + 1], v[2 * x + 1]⟩]) (by omega) (by omega) (by rw [List.length_append, ha]; rfl)
    rw [census_forms.l0, if_pos (by rw [decide_eq_true_eq]; omega), hw2, hw3, if_pos (by omega), if_pos (by omega), if_pos (by omega), if_pos (by omega), r1, r2, r3, r4, if_pos (by rw [ha]; show x + 1 ≤ _; omega), hwx, ih, mkS_drop (x := x) hu hv (by omega), List.append_assoc]
    rfl
/-! ### the least forms -/
def okS (s : List Tile) : Bool := validT s && decide (canF s = s)
def rowG (n : Nat) (u : List Int) : List (List Tile) := ((exL (2 * n) 0).map (mkS u)).filter okS
def formL (n : Nat) : List (List Tile) := (exL (2 * n) 0).flatMap (rowG n)
theorem canF_lenN {s : List Tile} (hs : s.length ≤ 3) : (canF s).length ≤ 1000 := by rw [canF_len hs]; omega
theorem b2_one {n : Nat} (hn : n ≤ 3) {u v : List Int} (hu : u.length = 2 * n) (hv : v.length = 2 * n) {l : List (List Tile)} (hl : l.length < 100000000000) {k : Nat} (hk : 400000 ≤ k) : census_forms.b2 k n u v (l, 0) = some ((l ++ [mkS u v].filter okS, 0), true) := by
  have hm := (mkS_all n u v hu hv).1
  have h0 := set_l0 hu hv (by omega) n 0 k [] (by omega) (by omega) rfl
  have h0 : census_forms.l0 k [] 0 n u v = some ([] ++ mkS u v) := h0
  rw [List.nil_append] at h0
  rw [census_forms.b2, if_pos rfl, h0, Option.bind_some, tile_valid _ (by omega) (by omega), Option.bind_some]
  have he : [mkS u v].filter okS = if okS (mkS u v) = true then [mkS u v] else [] := by
    cases h : okS (mkS u v) <;> simp [h]
  rw [he]
  unfold okS
  cases hv : validT (mkS u v)
  · rw [if_neg (by simp), Option.bind_some, if_neg (by simp), Option.bind_some, if_neg (by simp), List.append_nil]
  · have h1 : census_least k (mkS u v) = some (canF (mkS u v)) := by
      obtain ⟨k, rfl⟩ : ∃ m, k = m + 300000 := ⟨k - 300000, by omega⟩
      exact least_eqN (by omega) k
    obtain ⟨r, h2, _, h3⟩ := before_eq (a := canF (mkS u v)) (b := mkS u v) (canF_lenN (by omega)) (by omega) (k := k) (by omega)
    rw [if_pos rfl, h1, Option.bind_some, h2, Option.bind_some, Option.bind_some, Bool.true_and]
    by_cases hc : canF (mkS u v) = mkS u v
    · rw [if_pos (by rw [h3.2 hc]; rfl), if_pos (by omega), if_pos (decide_eq_true hc)]; rfl
    · rw [if_neg (by rw [beq_iff_eq]; exact fun e => hc (h3.1 e)), if_neg (by rw [decide_eq_true_eq]; exact hc), List.append_nil]; rfl
theorem b2_runs {n : Nat} (hn : n ≤ 3) {u : List Int} (hu : u.length = 2 * n) {k : Nat} (hk : 400000 ≤ k) : ∀ (L : List (List Int)) (l : List (List Tile)), (∀ v ∈ L, v.length = 2 * n) → l.length + L.length ≤ 10000000000 → RunsTo (census_forms.b2 k n u) L (l, 0) (l ++ (L.map (mkS u)).filter okS, 0)
  | [], l, hL, hl => by show (l, (0 : Int)) = (l ++ [], 0); rw [List.append_nil]
  | v :: L, l, hL, hl => by
    rw [List.length_cons] at hl
    refine ⟨_, b2_one hn hu (hL v List.mem_cons_self) (by omega) hk, ?_⟩
    have hf : ([mkS u v].filter okS).length ≤ 1 := List.length_filter_le _ _
    have := b2_runs hn hu hk L (l ++ [mkS u v].filter okS) (fun w hw => hL w (List.mem_cons_of_mem _ hw)) (by rw [List.length_append]; omega)
    rw [List.map_cons, show mkS u v :: L.map (mkS u) = [mkS u v] ++ L.map (mkS u) from rfl, List.filter_append, ← List.append_assoc]
    exact this
theorem rowG_len {n : Nat} (hn : n ≤ 3) (u : List Int) : (rowG n u).length ≤ 203 := by
  have h1 := exL_many hn
  have h2 : (rowG n u).length ≤ ((exL (2 * n) 0).map (mkS u)).length := List.length_filter_le _ _
  rw [List.length_map] at h2
  omega
theorem w2n {n : Nat} (hn : n ≤ 3) : w64 (2 * (n : Int)) = ((2 * n : Nat) : Int) := by rw [w64_id (by omega) (by omega)]; rfl
theorem b1_runs {n : Nat} (hn : n ≤ 3) {k : Nat} (hk : 400000 ≤ k) : ∀ (L : List (List Int)) (l : List (List Tile)), (∀ v ∈ L, v.length = 2 * n) → l.length + 203 * L.length ≤ 1000000000 → RunsTo (census_forms.b1 k n) L (l, 0) (l ++ L.flatMap (rowG n), 0)
  | [], l, hL, hl => by show (l, (0 : Int)) = (l ++ [], 0); rw [List.append_nil]
  | u :: L, l, hL, hl => by
    rw [List.length_cons] at hl
    have hm := exL_many hn
    have h1 := b2_runs hn (hL u List.mem_cons_self) hk (exL (2 * n) 0) l (fun v hv => exL_len _ _ v hv) (by omega)
    have h2 := words_run (by omega) (k := k) (by omega) h1
    refine ⟨(l ++ rowG n u, 0), ?_, ?_⟩
    · rw [census_forms.b1, if_pos rfl]
      unfold census_words
      rw [Option.bind_some, w2n hn, h2]; rfl
    · have := rowG_len hn u
      have := b1_runs hn hk L (l ++ rowG n u) (fun w hw => hL w (List.mem_cons_of_mem _ hw)) (by rw [List.length_append]; omega)
      rw [List.flatMap_cons, ← List.append_assoc]
      exact this
theorem forms_sort {n : Nat} (hn : n ≤ 3) {k : Nat} (hk : 400000 ≤ k) : census_forms k n = sortP (census_before k) (formL n) [] := by
  have hm := exL_many hn
  have h1 := b1_runs hn hk (exL (2 * n) 0) [] (fun v hv => exL_len _ _ v hv) (by simp; omega)
  have h2 := words_run (by omega) (k := k) (by omega) h1
  have h2 : census_words_1_y k ((2 * n : Nat) : Int) (census_forms.b1 k n) (([] : List (List Tile)), (0 : Int)) = some (formL n, 0) := h2
  unfold census_forms census_words
  rw [Option.bind_some, w2n hn, h2, Option.bind_some]
  show (if (0 : Int) = 0 then (sortP (census_before k) (formL n) []).bind some else none) = _
  rw [if_pos rfl]
  cases sortP (census_before k) (formL n) [] <;> rfl
/-! what is there, and once -/
theorem formL_mem {n : Nat} {s : List Tile} : s ∈ formL n ↔ (∃ u v, u ∈ exL (2 * n) 0 ∧ v ∈ exL (2 * n) 0 ∧ s = mkS u v) ∧ validT s = true ∧ canF s = s := by
  unfold formL rowG okS
  simp only [List.mem_flatMap, List.mem_filter, List.mem_map, Bool.and_eq_true, decide_eq_true_eq]
  constructor
  · rintro ⟨u, hu, ⟨v, hv, rfl⟩, h⟩
    exact ⟨⟨u, v, hu, hv, rfl⟩, h⟩
  · rintro ⟨⟨u, v, hu, hv, rfl⟩, h⟩
    exact ⟨u, hu, ⟨v, hv, rfl⟩, h⟩
theorem formL_len {n : Nat} {s : List Tile} (h : s ∈ formL n) : s.length = n := by
  obtain ⟨⟨u, v, hu, hv, rfl⟩, _⟩ := formL_mem.1 h
  exact (mkS_all n u v (exL_len _ _ _ hu) (exL_len _ _ _ hv)).1
theorem formL_nodup (n : Nat) : (formL n).Nodup := by
  unfold formL List.Nodup
  rw [List.pairwise_flatMap]
  refine ⟨fun u hu => ?_, (exL_nodup (2 * n) 0).imp_of_mem fun {a b} ha hb hab x hx y hy e => ?_⟩
  · refine List.Pairwise.filter _ ?_
    rw [List.pairwise_map]
    refine (exL_nodup (2 * n) 0).imp_of_mem fun {a b} ha hb hab e => hab ?_
    have h1 := (mkS_all n u a (exL_len _ _ _ hu) (exL_len _ _ _ ha)).2.2
    have h2 := (mkS_all n u b (exL_len _ _ _ hu) (exL_len _ _ _ hb)).2.2
    rw [← h1, ← h2, e]
  · subst e
    obtain ⟨v, hv, rfl⟩ := List.mem_map.1 (List.mem_filter.1 hx).1
    obtain ⟨w, hw, e2⟩ := List.mem_map.1 (List.mem_filter.1 hy).1
    have h1 := (mkS_all n a v (exL_len _ _ _ ha) (exL_len _ _ _ hv)).2.1
    have h2 := (mkS_all n b w (exL_len _ _ _ hb) (exL_len _ _ _ hw)).2.1
    exact hab (by rw [← h1, ← h2, e2])
theorem formL_many {n : Nat} (hn : n ≤ 3) : (formL n).length ≤ 100000 := by
  have hm := exL_many hn
  unfold formL
  rw [List.length_flatMap]
  have : ∀ L : List (List Int), (L.map fun u => (rowG n u).length).sum ≤ 203 * L.length := fun L => by
    induction L with
    | nil => simp
    | cons u L ih => have := rowG_len hn u; rw [List.map_cons, List.sum_cons, List.length_cons]; omega
  have := this (exL (2 * n) 0)
  omega
def rnI : List Int → List Int → List Int
  | _, [] => []
  | met, c :: l => ixM (addM met c) c :: rnI (addM met c) l
theorem rnI_mem : ∀ (l met : List Int), rnI met l ∈ exL l.length met.length
  | [], met => by rw [rnI, List.length_nil, exL]; simp
  | c :: l, met => by
    rw [rnI, List.length_cons, exL, exF_mem]
    have hm : c ∈ addM met c := (addM_mem ..).2 (.inr rfl)
    have hlt := List.idxOf_lt_length_of_mem hm
    have key : (addM met c).length = max met.length ((addM met c).idxOf c + 1) ∧ (addM met c).idxOf c < met.length + 1 := by
      by_cases h : c ∈ met
      · have ha : addM met c = met := by unfold addM; rw [if_pos h]
        rw [ha] at hlt ⊢
        omega
      · have ha : addM met c = met ++ [c] := by unfold addM; rw [if_neg h]
        have hi : (met ++ [c]).idxOf c = met.length := by
          rw [List.idxOf_append, if_neg h]; simp
        rw [ha, hi, List.length_append]
        simp
    refine ⟨(addM met c).idxOf c, rnI (addM met c) l, Nat.zero_le _, by omega, ?_, rfl⟩
    rw [← key.1]
    exact rnI_mem l (addM met c)
theorem rn_mk : ∀ (s : List Tile) (up sd : List Int), mkS (rnI up (vertL s)) (rnI sd (horL s)) = rnL up sd s
  | [], up, sd => rfl
  | t :: s, up, sd => by
    show mkS (rnI up (t.N :: t.S :: vertL s)) (rnI sd (t.E :: t.W :: horL s)) = _
    rw [rnI, rnI, rnI, rnI, mkS, rn_mk s, rnL]
theorem vert_len : ∀ s : List Tile, (vertL s).length = 2 * s.length ∧ (horL s).length = 2 * s.length
  | [] => ⟨rfl, rfl⟩
  | t :: s => by
    obtain ⟨h1, h2⟩ := vert_len s
    show (t.N :: t.S :: vertL s).length = _ ∧ (t.E :: t.W :: horL s).length = _
    simp only [List.length_cons, h1, h2]
    omega
theorem ordL_tr {s y z : List Tile} (hs : s.length ≤ 3) (hy : y ∈ ordL s) : z ∈ ordL y ↔ z ∈ ordL s := by
  match s, hs, hy with
  | [], _, hy => rw [ordL, List.mem_singleton] at hy; subst hy; exact Iff.rfl
  | [a], _, hy => rw [ordL, List.mem_singleton] at hy; subst hy; exact Iff.rfl
  | [a, b], _, hy =>
    simp only [ordL, List.mem_cons, List.not_mem_nil, or_false] at hy
    rcases hy with rfl | rfl <;> simp only [ordL, List.mem_cons, List.not_mem_nil, or_false] <;> grind
  | [a, b, c], _, hy =>
    simp only [ordL, List.mem_cons, List.not_mem_nil, or_false] at hy
    rcases hy with rfl | rfl | rfl | rfl | rfl | rfl <;> simp only [ordL, List.mem_cons, List.not_mem_nil, or_false] <;> grind
theorem canF_idem {s : List Tile} (hs : s.length ≤ 3) : canF (canF s) = canF s := by
  obtain ⟨⟨y, hy, e⟩, _⟩ := canF_spec hs
  have hp := ordL_mem hs hy
  have hyl : y.length ≤ 3 := by rw [hp.length_eq]; exact hs
  obtain ⟨U, V, h1, h2, _, _⟩ := rn_form y
  have key : ∀ w ∈ ordL y, rn (w.map (rT (ixM U) (ixM V))) = rn w := fun w hw =>
    rn_map (P := fun c => c ∈ U) (Q := fun c => c ∈ V) (fun a b ha hb h => ixM_inj ha hb h) (fun a b ha hb h => ixM_inj ha hb h) fun t ht => h1 t ((ordL_mem hyl hw).mem_iff.1 ht)
  have : canF (rn y) = canF s := canF_same (by rw [rn_len]; exact hyl) hs
    (fun z hz => by
      rw [h2, ordL_map _ hyl] at hz
      obtain ⟨w, hw, rfl⟩ := List.mem_map.1 hz
      exact ⟨w, (ordL_tr hs hy).1 hw, key w hw⟩)
    (fun z hz => by
      have hz2 := (ordL_tr hs hy).2 hz
      refine ⟨z.map (rT (ixM U) (ixM V)), ?_, (key z hz2).symm⟩
      rw [h2, ordL_map _ hyl]
      exact List.mem_map_of_mem hz2)
  rw [e, this, ← e]
theorem canF_in {s : List Tile} (hv : validT s = true) (hs : s.length ≤ 3) : canF s ∈ formL s.length := by
  obtain ⟨⟨y, hy, e⟩, _⟩ := canF_spec hs
  have hp := ordL_mem hs hy
  refine formL_mem.2 ⟨⟨rnI [] (vertL y), rnI [] (horL y), ?_, ?_, ?_⟩, canF_valid hv hs, canF_idem hs⟩
  · have := rnI_mem (vertL y) []
    rw [(vert_len y).1, hp.length_eq] at this
    exact this
  · have := rnI_mem (horL y) []
    rw [(vert_len y).2, hp.length_eq] at this
    exact this
  · rw [e, rn_mk]; rfl
end Gp
set_option linter.unusedVariables false
set_option linter.unusedSimpArgs false
namespace Gp
open Gw Gq
/-! ### the reference's names -/
/-! sets that are the same -/
/-! the reference's order -/
/-! the reference's orders -/
end Gp
set_option linter.unusedVariables false
set_option linter.unusedSimpArgs false
namespace Gp
open Gw Gq
/-! ### the reference's Least -/
def perS (s : List Tile) (o : List Nat) : List Tile := (o.filter (fun j => decide (j < s.length))).map fun j => s.getD j z_Tile
def plN : List (List Nat) := [[0, 1, 2], [0, 2, 1], [1, 0, 2], [1, 2, 0], [2, 0, 1], [2, 1, 0]]
theorem perS_mem {s y : List Tile} (hs : s.length ≤ 3) : y ∈ ordL s ↔ ∃ j, j < 6 ∧ y = perS s (plN.getD j []) := by
  constructor
  · intro h
    match s, hs, h with
    | [], _, h => rw [ordL, List.mem_singleton] at h; exact ⟨0, by omega, h⟩
    | [a], _, h => rw [ordL, List.mem_singleton] at h; exact ⟨0, by omega, h⟩
    | [a, b], _, h =>
      simp only [ordL, List.mem_cons, List.not_mem_nil, or_false] at h
      rcases h with rfl | rfl
      · exact ⟨0, by omega, rfl⟩
      · exact ⟨2, by omega, rfl⟩
    | [a, b, c], _, h =>
      simp only [ordL, List.mem_cons, List.not_mem_nil, or_false] at h
      rcases h with rfl | rfl | rfl | rfl | rfl | rfl
      · exact ⟨0, by omega, rfl⟩
      · exact ⟨1, by omega, rfl⟩
      · exact ⟨2, by omega, rfl⟩
      · exact ⟨3, by omega, rfl⟩
      · exact ⟨5, by omega, rfl⟩
      · exact ⟨4, by omega, rfl⟩
  · rintro ⟨j, hj, rfl⟩
    have hj : j = 0 ∨ j = 1 ∨ j = 2 ∨ j = 3 ∨ j = 4 ∨ j = 5 := by omega
    match s, hs with
    | [], _ => rcases hj with rfl | rfl | rfl | rfl | rfl | rfl <;> exact List.mem_cons_self
    | [a], _ => rcases hj with rfl | rfl | rfl | rfl | rfl | rfl <;> exact List.mem_cons_self
    | [a, b], _ => rcases hj with rfl | rfl | rfl | rfl | rfl | rfl <;> simp [ordL, perS, plN]
    | [a, b, c], _ => rcases hj with rfl | rfl | rfl | rfl | rfl | rfl <;> simp [ordL, perS, plN]
theorem self_ord {s : List Tile} (hs : s.length ≤ 3) : s ∈ ordL s := by
  match s, hs with
  | [], _ => exact List.mem_cons_self
  | [a], _ => exact List.mem_cons_self
  | [a, b], _ => exact List.mem_cons_self
  | [a, b, c], _ => exact List.mem_cons_self
/-! ### the reference's list -/
end Gp
set_option linter.unusedVariables false
set_option linter.unusedSimpArgs false
namespace Gp
open Gw Gq
/-! ### the sorted list -/
theorem insI_perm (lt : Nat → Nat → Bool) (x : Nat) : ∀ l : List Nat, (insI lt x l).Perm (x :: l)
  | [] => List.Perm.refl _
  | y :: r => by
    rw [insI]
    split
    · exact List.Perm.refl _
    · exact ((insI_perm lt x r).cons y).trans (List.Perm.swap x y r)
theorem srtI_perm (lt : Nat → Nat → Bool) : ∀ l : List Nat, (srtI lt l).Perm l
  | [] => List.Perm.refl _
  | x :: r => by
    rw [srtI]
    exact (insI_perm lt x _).trans ((srtI_perm lt r).cons x)
theorem sort_ok {Z : List (List Tile)} (hne : Z ≠ []) (hl : Z.length ≤ 100000000000) (hn : Z.Nodup) (h3 : ∀ s ∈ Z, s.length ≤ 1000) {k : Nat} (hk : 200000 < k) : ∃ R, sortP (census_before k) Z [] = some R ∧ R.Perm Z ∧ R.Pairwise (fun a b => befB a b = true) := by
  have hg : ∀ i, (hi : i < Z.length) → Z.getD i [] = Z[i] := fun i hi => by rw [List.getD_eq_getElem?_getD, List.getElem?_eq_getElem hi]; rfl
  have hc : ∀ i j, (hi : i < Z.length) → (hj : j < Z.length) → ∃ r : Int, census_before k Z[i] Z[j] = some r ∧ (r < 0 ↔ befB Z[i] Z[j] = true) := fun i j hi hj => by
    obtain ⟨r, h1, h2, _⟩ := before_eq (h3 _ (List.getElem_mem hi)) (h3 _ (List.getElem_mem hj)) hk
    exact ⟨r, h1, h2⟩
  have hlt : ∀ i j, (hi : i < Z.length) → (hj : j < Z.length) → ltI (census_before k) Z [] i j = befB Z[i] Z[j] := fun i j hi hj => by
    obtain ⟨r, h1, h2⟩ := hc i j hi hj
    unfold ltI cfI
    rw [Nat.mod_eq_of_lt hi, Nat.mod_eq_of_lt hj, hg i hi, hg j hj, h1, Option.getD_some, Bool.eq_iff_iff, decide_eq_true_eq]
    exact h2
  have hne2 : ∀ i j, (hi : i < Z.length) → (hj : j < Z.length) → i ≠ j → Z[i] ≠ Z[j] := fun i j hi hj hij e => by
    have hp := List.pairwise_iff_getElem.1 hn
    rcases Nat.lt_or_gt_of_ne hij with h | h
    · exact hp i j hi hj h e
    · exact hp j i hj hi h e.symm
  have ho : ordB (census_before k) Z [] = true := by
    unfold ordB
    simp only [List.all_eq_true, List.mem_range, Bool.and_eq_true]
    intro i hi j hj
    obtain ⟨r, h1, h2⟩ := hc i j hi hj
    refine ⟨⟨by rw [hg i hi, hg j hj, h1]; rfl, ?_⟩, fun m hm => ?_⟩
    · by_cases e : i = j
      · rw [if_pos e, hlt i j hi hj]
        subst e
        have : befB Z[i] Z[i] = false := ltL_irr _
        rw [this]; rfl
      · rw [if_neg e, hlt i j hi hj, hlt j i hj hi]
        have hd := hne2 i j hi hj e
        rcases ltL_tot (numL Z[i]) (numL Z[j]) with h | h | h
        · exact absurd (numL_inj h) hd
        · have h : befB Z[i] Z[j] = true := h
          have : befB Z[j] Z[i] = false := by
            cases h2 : befB Z[j] Z[i]
            · rfl
            · have := ltL_trans _ _ _ h h2
              rw [ltL_irr] at this; cases this
          rw [h, this]; rfl
        · have h : befB Z[j] Z[i] = true := h
          have : befB Z[i] Z[j] = false := by
            cases h2 : befB Z[i] Z[j]
            · rfl
            · have := ltL_trans _ _ _ h h2
              rw [ltL_irr] at this; cases this
          rw [h, this]; rfl
    · rw [hlt i j hi hj, hlt j m hj hm, hlt i m hi hm]
      cases h1 : befB Z[i] Z[j]
      · rfl
      · cases h2 : befB Z[j] Z[m]
        · rfl
        · have : befB Z[i] Z[m] = true := ltL_trans _ _ _ h1 h2
          rw [this]; rfl
  obtain ⟨o, _⟩ := ordB_ok ho
  refine ⟨(srtI (ltI (census_before k) Z []) (List.range Z.length)).map fun i => Z.getD i [], ?_, ?_, ?_⟩
  · unfold sortP
    rw [if_neg (by simp [hne]), if_pos hl, if_pos ho]
  · refine ((srtI_perm _ _).map _).trans ?_
    have : (List.range Z.length).map (fun i => Z.getD i []) = Z := by
      apply List.ext_getElem
      · rw [List.length_map, List.length_range]
      · intro i h1 h2
        rw [List.getElem_map, List.getElem_range, hg i h2]
    rw [this]
  · rw [List.pairwise_map]
    refine (srtI_pw o _ (fun y hy => List.mem_range.1 hy) List.nodup_range).imp_of_mem fun {a b} ha hb h => ?_
    have ha := List.mem_range.1 ((srtI_mem _ _ _).1 ha)
    have hb := List.mem_range.1 ((srtI_mem _ _ _).1 hb)
    rw [hlt a b ha hb] at h
    rw [hg a ha, hg b hb]
    exact h
def someS : Nat → List Tile
  | 0 => []
  | 1 => [⟨0, 0, 0, 0⟩]
  | 2 => [⟨0, 0, 0, 0⟩, ⟨0, 0, 0, 1⟩]
  | _ => [⟨0, 0, 0, 0⟩, ⟨0, 0, 0, 1⟩, ⟨0, 0, 1, 0⟩]
theorem forms_ok {n : Nat} (hn : n ≤ 3) {k : Nat} (hk : 400000 ≤ k) : ∃ R, census_forms k n = some R ∧ R.Perm (formL n) ∧ R.Pairwise (fun a b => befB a b = true) := by
  have hs : validT (someS n) = true ∧ (someS n).length = n := by
    have : n = 0 ∨ n = 1 ∨ n = 2 ∨ n = 3 := by omega
    rcases this with rfl | rfl | rfl | rfl <;> exact ⟨by decide +kernel, rfl⟩
  have hmem := canF_in hs.1 (by omega)
  rw [hs.2] at hmem
  obtain ⟨R, h1, h2, h3⟩ := sort_ok (Z := formL n) (fun e => by rw [e] at hmem; cases hmem) (by have := formL_many hn; omega) (formL_nodup n) (fun s hs => by have := formL_len hs; omega) (k := k) (by omega)
  exact ⟨R, by rw [forms_sort hn hk, h1], h2, h3⟩
theorem fewN_eq (n : Nat) (hn : n ≤ 3) : census_few (n : Int) = some true := by
  unfold census_few
  rw [decide_eq_true (by omega), decide_eq_true (by omega)]; rfl
/-! ### the example -/
/-! ### CensusAll -/
end Gp
set_option linter.unusedVariables false
set_option linter.unusedSimpArgs false
namespace Gp
open Gw Gq
/-! ### CensusMember -/
/-! ### CensusCount -/
def talF : List (List Tile) → Int × Int × Int → Int × Int × Int
  | [], s => s
  | x :: R, s => talF R (if (decV x).1.Fills = true then w64 (s.1 + 1) else s.1, maxI s.2.1 ((decV x).1.Torus.Cells.length : Int), maxI s.2.2 (decV x).1.Side)
theorem decV_zero {s : List Tile} (h3 : s.length ≤ 3) : (decV s).2 = 0 := by
  rcases dec_cases h3 with ⟨n, hn, e1, e2, e3, e4, e5, e6⟩ | ⟨p, e1, e2, e3, e6⟩
  · rw [e5]
  · rw [e3]
theorem cnt_l0 {R : List (List Tile)} (hR : ∀ s ∈ R, validT s = true ∧ s.length ≤ 3) (hl : R.length ≤ 1000000) : ∀ (d x k : Nat) (f c q : Int), x + d = R.length → 400000 + d < k → census_Count.l0 k x f c q x R = some (.inr ((R.length : Int), talF (R.drop x) (f, c, q)))
  | 0, x, k, f, c, q, e, hk => by
    obtain ⟨k, rfl⟩ : ∃ m, k = m + 1 := ⟨k - 1, by omega⟩
    rw [census_Count.l0, if_neg (by simp; omega), List.drop_of_length_le (by omega), show x = R.length by omega]; rfl
  | d + 1, x, k, f, c, q, e, hk => by
    obtain ⟨k, rfl⟩ : ∃ m, k = m + 1 := ⟨k - 1, by omega⟩
    have hx : x < R.length := by omega
    have hwx : w64 ((x : Int) + 1) = ((x + 1 : Nat) : Int) := by rw [w64_id (by omega) (by omega)]; rfl
    have r1 : rdD R (x : Int) [] = R[x] := rdD_get hx _
    obtain ⟨hv, hs⟩ := hR _ (List.getElem_mem hx)
    have hz := decV_zero hs
    have ih := cnt_l0 hR hl d (x + 1) k (if (decV R[x]).1.Fills = true then w64 (f + 1) else f) (maxI c ((decV R[x]).1.Torus.Cells.length : Int)) (maxI q (decV R[x]).1.Side) (by omega) (by omega)
    rw [census_Count.l0, if_pos (by simpa using hx), if_pos (by omega), r1, decide_eq hv hs (by omega), Option.bind_some, if_neg (by rw [hz]; decide), hwx, List.drop_eq_getElem_cons hx, talF]
    rw [← ih]
    split <;> rfl
theorem cntC_ok {n : Nat} (hn : n ≤ 3) {k : Nat} (hk : 600000 ≤ k) {R : List (List Tile)} (h1 : census_forms k n = some R) (h3 : R.Perm (formL n)) : census_Count k n = some (⟨(R.length : Int), (talF R (0, 0, 0)).1, (talF R (0, 0, 0)).2.1, (talF R (0, 0, 0)).2.2⟩, 0) := by
  have hR : ∀ s ∈ R, validT s = true ∧ s.length ≤ 3 := fun s hs => by
    have hm := h3.mem_iff.1 hs
    exact ⟨(formL_mem.1 hm).2.1, by rw [formL_len hm]; exact hn⟩
  have hl : R.length = (formL n).length := h3.length_eq
  have hmany := formL_many hn
  have a1 := cnt_l0 hR (by omega) R.length 0 k 0 0 0 (by omega) (by omega)
  rw [List.drop_zero] at a1
  have a1 : census_Count.l0 k 0 0 0 0 0 R = _ := a1
  unfold census_Count
  rw [fewN_eq n hn, Option.bind_some, if_neg (by decide), h1, Option.bind_some, a1]; rfl
/-! ### CensusCanon -/
end Gp
set_option linter.unusedVariables false
set_option linter.unusedSimpArgs false
namespace Gp
open Gw Gq
/-! ### the census: how many there are, how many of them fill -/
def fitT (a b : Nat) : Bool := torL.any fun c => sub9 c.1 a && sub9 c.2.1 b
theorem fitT_iff {s : List Tile} (hs : s.length ≤ 3) : fillB s 4 = fitT (mkM (vR s)) (mkM (hR s)) := by
  have c4 : fillB s 4 = true ↔ ∃ f, Fill s 4 4 f := fillB_iff s (by omega) (by omega)
  rw [Bool.eq_iff_iff]
  unfold fitT
  rw [List.any_eq_true]
  constructor
  · intro h
    have h1 := List.all_eq_true.1 cen_ok _ (vR_mem s)
    have h2 := List.all_eq_true.1 h1 _ (hR_mem s)
    rw [Bool.or_eq_true, List.any_eq_true, List.any_eq_true] at h2
    rcases h2 with ⟨b, hb, hss⟩ | ⟨b, hb, hss⟩
    · obtain ⟨c, hc, rfl⟩ := List.mem_map.1 hb
      obtain ⟨hc, hc2⟩ := List.mem_filter.1 hc
      exact ⟨c, hc, by rw [hc2, hss]; rfl⟩
    · exfalso
      obtain ⟨f, hf⟩ := c4.1 h
      obtain ⟨c, hc, rfl⟩ := List.mem_map.1 hb
      obtain ⟨hc, hc2⟩ := List.mem_filter.1 hc
      have := List.all_eq_true.1 non_ok c hc
      simp only [Bool.and_eq_true, decide_eq_true_eq] at this
      obtain ⟨⟨⟨k1, k2⟩, k3⟩, k4⟩ := this
      rw [fill_goF hs (fill_sub hf (w' := c.2.2.1) (h' := c.2.2.2) k2 k3) k1 hc2 hss] at k4
      cases k4
  · rintro ⟨c, hc, h⟩
    rw [Bool.and_eq_true] at h
    obtain ⟨w, h', f, hw, hh, ht⟩ := tor_cert (List.all_eq_true.1 tor_ok c hc) h.1 h.2
    exact fillB_of_tor ht hw.1 hh.1 (by omega) (by omega)
/-! numbers of six places -/
def val : List Int → Nat
  | [] => 0
  | x :: l => x.toNat * 6 ^ l.length + val l
def in6 (x : Int) : Bool := decide (0 ≤ x) && decide (x < 6)
theorem val_lt : ∀ l : List Int, l.all in6 = true → val l < 6 ^ l.length
  | [], _ => by decide
  | x :: l, h => by
    rw [List.all_cons, Bool.and_eq_true] at h
    have h1 := val_lt l h.2
    have hx : x.toNat ≤ 5 := by
      have := h.1
      unfold in6 at this
      rw [Bool.and_eq_true, decide_eq_true_eq, decide_eq_true_eq] at this
      omega
    rw [val, List.length_cons, Nat.pow_succ]
    have : x.toNat * 6 ^ l.length ≤ 5 * 6 ^ l.length := Nat.mul_le_mul_right _ hx
    omega
theorem val_lex : ∀ a b : List Int, a.length = b.length → a.all in6 = true → b.all in6 = true → ltL a b = decide (val a < val b)
  | [], [], _, _, _ => rfl
  | [], _ :: _, h, _, _ => by simp at h
  | _ :: _, [], h, _, _ => by simp at h
  | x :: a, y :: b, h, ha, hb => by
    rw [List.all_cons, Bool.and_eq_true] at ha hb
    have hl : a.length = b.length := by simpa using h
    have h1 := val_lt a ha.2
    have h2 := val_lt b hb.2
    have hx := ha.1
    have hy := hb.1
    unfold in6 at hx hy
    rw [Bool.and_eq_true, decide_eq_true_eq, decide_eq_true_eq] at hx hy
    rw [ltL, val_lex a b hl ha.2 hb.2, val, val, ← hl]
    rw [← hl] at h2
    generalize 6 ^ a.length = q at h1 h2 ⊢
    rw [Bool.eq_iff_iff]
    simp only [Bool.or_eq_true, Bool.and_eq_true, decide_eq_true_eq]
    rcases Int.lt_trichotomy x y with h | h | h
    · have : (x.toNat + 1) * q ≤ y.toNat * q := Nat.mul_le_mul_right _ (by omega)
      rw [Nat.add_mul] at this
      constructor
      · intro _; omega
      · intro _; exact .inl h
    · subst h
      constructor
      · rintro (h | ⟨_, h⟩) <;> omega
      · intro h; exact .inr ⟨rfl, by omega⟩
    · have : (y.toNat + 1) * q ≤ x.toNat * q := Nat.mul_le_mul_right _ (by omega)
      rw [Nat.add_mul] at this
      constructor
      · rintro (h2 | ⟨h2, _⟩) <;> omega
      · intro h; omega
def dig : List Int → Nat
  | [a, b, c, d, e, f] => ((((a.toNat * 36 + b.toNat) * 36 + c.toNat) * 36 + d.toNat) * 36 + e.toNat) * 36 + f.toNat
  | _ => 0
theorem len6 {u : List Int} (h : u.length = 6) : ∃ a b c d e f, u = [a, b, c, d, e, f] := by
  match u, h with
  | [a, b, c, d, e, f], _ => exact ⟨a, b, c, d, e, f, rfl⟩
theorem bef_dig {a b c d : List Int} (ha : a.length = 6) (hb : b.length = 6) (hc : c.length = 6) (hd : d.length = 6) (ia : a.all in6 = true) (ib : b.all in6 = true) (ic : c.all in6 = true) (id : d.all in6 = true) : befB (mkS a b) (mkS c d) = decide (6 * dig a + dig b < 6 * dig c + dig d) := by
  obtain ⟨a0, a1, a2, a3, a4, a5, rfl⟩ := len6 ha
  obtain ⟨b0, b1, b2, b3, b4, b5, rfl⟩ := len6 hb
  obtain ⟨c0, c1, c2, c3, c4, c5, rfl⟩ := len6 hc
  obtain ⟨d0, d1, d2, d3, d4, d5, rfl⟩ := len6 hd
  have n1 : numL (mkS [a0, a1, a2, a3, a4, a5] [b0, b1, b2, b3, b4, b5]) = [a0, b0, a1, b1, a2, b2, a3, b3, a4, b4, a5, b5] := rfl
  have n2 : numL (mkS [c0, c1, c2, c3, c4, c5] [d0, d1, d2, d3, d4, d5]) = [c0, d0, c1, d1, c2, d2, c3, d3, c4, d4, c5, d5] := rfl
  unfold befB
  simp only [List.all_cons, List.all_nil, Bool.and_true, Bool.and_eq_true] at ia ib ic id
  rw [n1, n2, val_lex [a0, b0, a1, b1, a2, b2, a3, b3, a4, b4, a5, b5] [c0, d0, c1, d1, c2, d2, c3, d3, c4, d4, c5, d5] rfl (by simp only [List.all_cons, List.all_nil, Bool.and_true, Bool.and_eq_true]; simp only [ia, ib, and_self]) (by simp only [List.all_cons, List.all_nil, Bool.and_true, Bool.and_eq_true]; simp only [ic, id, and_self])]
  have v1 : val [a0, b0, a1, b1, a2, b2, a3, b3, a4, b4, a5, b5] = 6 * dig [a0, a1, a2, a3, a4, a5] + dig [b0, b1, b2, b3, b4, b5] := by
    simp only [val, dig, List.length_cons, List.length_nil]
    omega
  have v2 : val [c0, d0, c1, d1, c2, d2, c3, d3, c4, d4, c5, d5] = 6 * dig [c0, c1, c2, c3, c4, c5] + dig [d0, d1, d2, d3, d4, d5] := by
    simp only [val, dig, List.length_cons, List.length_nil]
    omega
  rw [v1, v2]
/-! what a word gives -/
def perW (o : List Nat) (u : List Int) : List Int := o.flatMap fun i => [u.getD (2 * i) 0, u.getD (2 * i + 1) 0]
def pwW (j : Nat) (u : List Int) : List Int := rnI [] (perW (plN.getD j []) u)
def emW (u : List Int) : Nat := (decide (u.getD 0 0 = u.getD 2 0) && decide (u.getD 1 0 = u.getD 3 0)).toNat + 2 * (decide (u.getD 0 0 = u.getD 4 0) && decide (u.getD 1 0 = u.getD 5 0)).toNat + 4 * (decide (u.getD 2 0 = u.getD 4 0) && decide (u.getD 3 0 = u.getD 5 0)).toNat
def mmW (u : List Int) : Nat := mk9 fun k => decide (u.getD (2 * (k / 3)) 0 = u.getD (2 * (k % 3) + 1) 0)
structure DW where
  em : Nat
  mm : Nat
  d0 : Nat
  d1 : Nat
  d2 : Nat
  d3 : Nat
  d4 : Nat
  d5 : Nat
  deriving DecidableEq
def dW (u : List Int) : DW := ⟨emW u, mmW u, dig u, dig (pwW 1 u), dig (pwW 2 u), dig (pwW 3 u), dig (pwW 4 u), dig (pwW 5 u)⟩
def ok2 (a b : DW) : Bool := bif Nat.beq (Nat.land a.em b.em) 0 then (bif Nat.ble (6 * a.d0 + b.d0) (6 * a.d1 + b.d1) then (bif Nat.ble (6 * a.d0 + b.d0) (6 * a.d2 + b.d2) then (bif Nat.ble (6 * a.d0 + b.d0) (6 * a.d3 + b.d3) then (bif Nat.ble (6 * a.d0 + b.d0) (6 * a.d4 + b.d4) then Nat.ble (6 * a.d0 + b.d0) (6 * a.d5 + b.d5) else false) else false) else false) else false) else false
def DL : List DW := [⟨7, 511, 0, 0, 0, 0, 0, 0⟩, ⟨1, 219, 1, 1296, 1, 1296, 1679616, 1679616⟩, ⟨1, 63, 36, 46656, 36, 46656, 1727605, 1727605⟩, ⟨1, 283, 37, 47952, 37, 47952, 47989, 47989⟩, ⟨1, 27, 38, 49248, 38, 49248, 1775594, 1775594⟩, ⟨2, 365, 1296, 1, 1679616, 1679616, 1, 1296⟩, ⟨4, 73, 1297, 1297, 1679617, 1680912, 1679617, 1680912⟩, ⟨0, 73, 1298, 1298, 1679618, 1682208, 1679618, 1682208⟩, ⟨0, 173, 1332, 46657, 1679652, 1726272, 1727604, 1726309⟩, ⟨0, 393, 1333, 47953, 1679653, 1727568, 47988, 46693⟩, ⟨0, 137, 1334, 49249, 1679654, 1728864, 1775592, 1773002⟩, ⟨0, 45, 1368, 46658, 1679688, 1772928, 1727606, 1728901⟩, ⟨0, 9, 1369, 49250, 1679689, 1774224, 1775593, 1774298⟩, ⟨0, 265, 1370, 47954, 1679690, 1775520, 47990, 49285⟩, ⟨0, 9, 1371, 49251, 1679691, 1776816, 1775595, 1776890⟩, ⟨2, 455, 46656, 36, 1727605, 1727605, 36, 46656⟩, ⟨0, 227, 46657, 1332, 1727604, 1726309, 1679652, 1726272⟩, ⟨0, 195, 46658, 1368, 1727606, 1728901, 1679688, 1772928⟩, ⟨4, 7, 46692, 46692, 1727569, 1680949, 1727569, 1680949⟩, ⟨0, 291, 46693, 47988, 1727568, 1679653, 47953, 1333⟩, ⟨0, 3, 46694, 49284, 1727570, 1682245, 1775522, 1682282⟩, ⟨0, 7, 46728, 46728, 1727641, 1774261, 1727641, 1774261⟩, ⟨0, 35, 46729, 49320, 1727640, 1772965, 1775558, 1728938⟩, ⟨0, 259, 46730, 48024, 1727642, 1775557, 48025, 49322⟩, ⟨0, 3, 46731, 49356, 1727643, 1776853, 1775630, 1776927⟩, ⟨2, 341, 47952, 37, 47989, 47989, 37, 47952⟩, ⟨0, 113, 47953, 1333, 47988, 46693, 1679653, 1727568⟩, ⟨0, 81, 47954, 1370, 47990, 49285, 1679690, 1775520⟩, ⟨0, 149, 47988, 46693, 47953, 1333, 1727568, 1679653⟩, ⟨4, 433, 47989, 47989, 47952, 37, 47952, 37⟩, ⟨0, 145, 47990, 49285, 47954, 1370, 1775520, 1679690⟩, ⟨0, 21, 48024, 46730, 48025, 49322, 1727642, 1775557⟩, ⟨0, 49, 48025, 49322, 48024, 46730, 1775557, 1727642⟩, ⟨0, 273, 48026, 48026, 48026, 48026, 48026, 48026⟩, ⟨0, 17, 48027, 49359, 48027, 49359, 1775631, 1775631⟩, ⟨2, 325, 49248, 38, 1775594, 1775594, 38, 49248⟩, ⟨0, 97, 49249, 1334, 1775592, 1773002, 1679654, 1728864⟩, ⟨0, 65, 49250, 1369, 1775593, 1774298, 1679689, 1774224⟩, ⟨0, 65, 49251, 1371, 1775595, 1776890, 1679691, 1776816⟩, ⟨0, 5, 49284, 46694, 1775522, 1682282, 1727570, 1682245⟩, ⟨0, 289, 49285, 47990, 1775520, 1679690, 47954, 1370⟩, ⟨4, 1, 49286, 49286, 1775521, 1680986, 1775521, 1680986⟩, ⟨0, 1, 49287, 49287, 1775523, 1682319, 1775523, 1682319⟩, ⟨0, 133, 49320, 46729, 1775558, 1728938, 1727640, 1772965⟩, ⟨0, 161, 49321, 49321, 1775556, 1726346, 1775556, 1726346⟩, ⟨0, 385, 49322, 48025, 1775557, 1727642, 48024, 46730⟩, ⟨0, 129, 49323, 49357, 1775559, 1728975, 1775628, 1773039⟩, ⟨0, 5, 49356, 46731, 1775630, 1776927, 1727643, 1776853⟩, ⟨0, 33, 49357, 49323, 1775628, 1773039, 1775559, 1728975⟩, ⟨0, 1, 49358, 49358, 1775629, 1774335, 1775629, 1774335⟩, ⟨0, 257, 49359, 48027, 1775631, 1775631, 48027, 49359⟩, ⟨0, 1, 49360, 49360, 1775632, 1776964, 1775632, 1776964⟩, ⟨4, 438, 1679616, 1679616, 1296, 1, 1296, 1⟩, ⟨2, 146, 1679617, 1680912, 1297, 1297, 1680912, 1679617⟩, ⟨0, 146, 1679618, 1682208, 1298, 1298, 1682208, 1679618⟩, ⟨0, 118, 1679652, 1726272, 1332, 46657, 1726309, 1727604⟩, ⟨0, 338, 1679653, 1727568, 1333, 47953, 46693, 47988⟩, ⟨0, 82, 1679654, 1728864, 1334, 49249, 1773002, 1775592⟩, ⟨0, 54, 1679688, 1772928, 1368, 46658, 1728901, 1727606⟩, ⟨0, 18, 1679689, 1774224, 1369, 49250, 1774298, 1775593⟩, ⟨0, 274, 1679690, 1775520, 1370, 47954, 49285, 47990⟩, ⟨0, 18, 1679691, 1776816, 1371, 49251, 1776890, 1775595⟩, ⟨1, 292, 1680912, 1679617, 1680912, 1679617, 1297, 1297⟩, ⟨7, 0, 1680913, 1680913, 1680913, 1680913, 1680913, 1680913⟩, ⟨1, 0, 1680914, 1682209, 1680914, 1682209, 1682210, 1682210⟩, ⟨1, 228, 1680948, 1726273, 1680948, 1726273, 1726308, 1726308⟩, ⟨1, 448, 1680949, 1727569, 1680949, 1727569, 46692, 46692⟩, ⟨1, 192, 1680950, 1728865, 1680950, 1728865, 1773000, 1773000⟩, ⟨1, 36, 1680984, 1772929, 1680984, 1772929, 1728902, 1728902⟩, ⟨1, 0, 1680985, 1774225, 1680985, 1774225, 1774297, 1774297⟩, ⟨1, 256, 1680986, 1775521, 1680986, 1775521, 49286, 49286⟩, ⟨1, 0, 1680987, 1776817, 1680987, 1776817, 1776891, 1776891⟩, ⟨0, 292, 1682208, 1679618, 1682208, 1679618, 1298, 1298⟩, ⟨2, 0, 1682209, 1680914, 1682210, 1682210, 1680914, 1682209⟩, ⟨4, 0, 1682210, 1682210, 1682209, 1680914, 1682209, 1680914⟩, ⟨0, 0, 1682211, 1682211, 1682211, 1682211, 1682211, 1682211⟩, ⟨0, 100, 1682244, 1726274, 1682280, 1772930, 1726310, 1728900⟩, ⟨0, 320, 1682245, 1727570, 1682282, 1775522, 46694, 49284⟩, ⟨0, 64, 1682246, 1728866, 1682281, 1774226, 1773001, 1774296⟩, ⟨0, 64, 1682247, 1728867, 1682283, 1776818, 1773003, 1776888⟩, ⟨0, 164, 1682280, 1772930, 1682244, 1726274, 1728900, 1726310⟩, ⟨0, 128, 1682281, 1774226, 1682246, 1728866, 1774296, 1773001⟩, ⟨0, 384, 1682282, 1775522, 1682245, 1727570, 49284, 46694⟩, ⟨0, 128, 1682283, 1776818, 1682247, 1728867, 1776888, 1773003⟩, ⟨0, 36, 1682316, 1772931, 1682316, 1772931, 1728903, 1728903⟩, ⟨0, 0, 1682317, 1774227, 1682318, 1776819, 1774299, 1776889⟩, ⟨0, 0, 1682318, 1776819, 1682317, 1774227, 1776889, 1774299⟩, ⟨0, 256, 1682319, 1775523, 1682319, 1775523, 49287, 49287⟩, ⟨0, 0, 1682320, 1776820, 1682320, 1776820, 1776892, 1776892⟩, ⟨0, 398, 1726272, 1679652, 1726309, 1727604, 1332, 46657⟩, ⟨2, 170, 1726273, 1680948, 1726308, 1726308, 1680948, 1726273⟩, ⟨0, 138, 1726274, 1682244, 1726310, 1728900, 1682280, 1772930⟩, ⟨4, 78, 1726308, 1726308, 1726273, 1680948, 1726273, 1680948⟩, ⟨0, 362, 1726309, 1727604, 1726272, 1679652, 46657, 1332⟩, ⟨0, 74, 1726310, 1728900, 1726274, 1682244, 1772930, 1682280⟩, ⟨0, 14, 1726344, 1772964, 1726345, 1774260, 1728937, 1774262⟩, ⟨0, 42, 1726345, 1774260, 1726344, 1772964, 1774262, 1728937⟩, ⟨0, 266, 1726346, 1775556, 1726346, 1775556, 49321, 49321⟩, ⟨0, 10, 1726347, 1776852, 1726347, 1776852, 1776926, 1776926⟩, ⟨0, 284, 1727568, 1679653, 46693, 47988, 1333, 47953⟩, ⟨2, 56, 1727569, 1680949, 46692, 46692, 1680949, 1727569⟩, ⟨0, 24, 1727570, 1682245, 46694, 49284, 1682282, 1775522⟩, ⟨0, 220, 1727604, 1726309, 46657, 1332, 1726272, 1679652⟩, ⟨4, 504, 1727605, 1727605, 46656, 36, 46656, 36⟩, ⟨0, 216, 1727606, 1728901, 46658, 1368, 1772928, 1679688⟩, ⟨0, 28, 1727640, 1772965, 46729, 49320, 1728938, 1775558⟩, ⟨0, 56, 1727641, 1774261, 46728, 46728, 1774261, 1727641⟩, ⟨0, 280, 1727642, 1775557, 46730, 48024, 49322, 48025⟩, ⟨0, 24, 1727643, 1776853, 46731, 49356, 1776927, 1775630⟩, ⟨0, 268, 1728864, 1679654, 1773002, 1775592, 1334, 49249⟩, ⟨2, 40, 1728865, 1680950, 1773000, 1773000, 1680950, 1728865⟩, ⟨0, 8, 1728866, 1682246, 1773001, 1774296, 1682281, 1774226⟩, ⟨0, 8, 1728867, 1682247, 1773003, 1776888, 1682283, 1776818⟩, ⟨0, 76, 1728900, 1726310, 1772930, 1682280, 1726274, 1682244⟩, ⟨0, 360, 1728901, 1727606, 1772928, 1679688, 46658, 1368⟩, ⟨4, 72, 1728902, 1728902, 1772929, 1680984, 1772929, 1680984⟩, ⟨0, 72, 1728903, 1728903, 1772931, 1682316, 1772931, 1682316⟩, ⟨0, 140, 1728936, 1772966, 1772966, 1728936, 1728936, 1772966⟩, ⟨0, 168, 1728937, 1774262, 1772964, 1726344, 1774260, 1726345⟩, ⟨0, 392, 1728938, 1775558, 1772965, 1727640, 49320, 46729⟩, ⟨0, 136, 1728939, 1776854, 1772967, 1728972, 1776924, 1773038⟩, ⟨0, 12, 1728972, 1772967, 1773038, 1776924, 1728939, 1776854⟩, ⟨0, 40, 1728973, 1774263, 1773036, 1773036, 1774263, 1728973⟩, ⟨0, 8, 1728974, 1776855, 1773037, 1774332, 1776925, 1774334⟩, ⟨0, 264, 1728975, 1775559, 1773039, 1775628, 49323, 49357⟩, ⟨0, 8, 1728976, 1776856, 1773040, 1776960, 1776928, 1776962⟩, ⟨0, 390, 1772928, 1679688, 1728901, 1727606, 1368, 46658⟩, ⟨2, 130, 1772929, 1680984, 1728902, 1728902, 1680984, 1772929⟩, ⟨0, 162, 1772930, 1682280, 1728900, 1726310, 1682244, 1726274⟩, ⟨0, 130, 1772931, 1682316, 1728903, 1728903, 1682316, 1772931⟩, ⟨0, 70, 1772964, 1726344, 1728937, 1774262, 1726345, 1774260⟩, ⟨0, 322, 1772965, 1727640, 1728938, 1775558, 46729, 49320⟩, ⟨0, 98, 1772966, 1728936, 1728936, 1772966, 1772966, 1728936⟩, ⟨0, 66, 1772967, 1728972, 1728939, 1776854, 1773038, 1776924⟩, ⟨4, 6, 1773000, 1773000, 1728865, 1680950, 1728865, 1680950⟩, ⟨0, 2, 1773001, 1774296, 1728866, 1682246, 1774226, 1682281⟩, ⟨0, 290, 1773002, 1775592, 1728864, 1679654, 49249, 1334⟩, ⟨0, 2, 1773003, 1776888, 1728867, 1682247, 1776818, 1682283⟩, ⟨0, 6, 1773036, 1773036, 1728973, 1774263, 1728973, 1774263⟩, ⟨0, 2, 1773037, 1774332, 1728974, 1776855, 1774334, 1776925⟩, ⟨0, 34, 1773038, 1776924, 1728972, 1772967, 1776854, 1728939⟩, ⟨0, 258, 1773039, 1775628, 1728975, 1775559, 49357, 49323⟩, ⟨0, 2, 1773040, 1776960, 1728976, 1776856, 1776962, 1776928⟩, ⟨0, 260, 1774224, 1679689, 1774298, 1775593, 1369, 49250⟩, ⟨2, 0, 1774225, 1680985, 1774297, 1774297, 1680985, 1774225⟩, ⟨0, 32, 1774226, 1682281, 1774296, 1773001, 1682246, 1728866⟩, ⟨0, 0, 1774227, 1682317, 1774299, 1776889, 1682318, 1776819⟩, ⟨0, 196, 1774260, 1726345, 1774262, 1728937, 1726344, 1772964⟩, ⟨0, 448, 1774261, 1727641, 1774261, 1727641, 46728, 46728⟩, ⟨0, 224, 1774262, 1728937, 1774260, 1726345, 1772964, 1726344⟩, ⟨0, 192, 1774263, 1728973, 1774263, 1728973, 1773036, 1773036⟩, ⟨0, 4, 1774296, 1773001, 1774226, 1682281, 1728866, 1682246⟩, ⟨4, 0, 1774297, 1774297, 1774225, 1680985, 1774225, 1680985⟩, ⟨0, 288, 1774298, 1775593, 1774224, 1679689, 49250, 1369⟩, ⟨0, 0, 1774299, 1776889, 1774227, 1682317, 1776819, 1682318⟩, ⟨0, 4, 1774332, 1773037, 1774334, 1776925, 1728974, 1776855⟩, ⟨0, 0, 1774333, 1774333, 1774333, 1774333, 1774333, 1774333⟩, ⟨0, 32, 1774334, 1776925, 1774332, 1773037, 1776855, 1728974⟩, ⟨0, 256, 1774335, 1775629, 1774335, 1775629, 49358, 49358⟩, ⟨0, 0, 1774336, 1776961, 1774336, 1776961, 1776963, 1776963⟩, ⟨0, 276, 1775520, 1679690, 49285, 47990, 1370, 47954⟩, ⟨2, 16, 1775521, 1680986, 49286, 49286, 1680986, 1775521⟩, ⟨0, 48, 1775522, 1682282, 49284, 46694, 1682245, 1727570⟩, ⟨0, 16, 1775523, 1682319, 49287, 49287, 1682319, 1775523⟩, ⟨0, 84, 1775556, 1726346, 49321, 49321, 1726346, 1775556⟩, ⟨0, 336, 1775557, 1727642, 49322, 48025, 46730, 48024⟩, ⟨0, 112, 1775558, 1728938, 49320, 46729, 1772965, 1727640⟩, ⟨0, 80, 1775559, 1728975, 49323, 49357, 1773039, 1775628⟩, ⟨0, 148, 1775592, 1773002, 49249, 1334, 1728864, 1679654⟩, ⟨0, 144, 1775593, 1774298, 49250, 1369, 1774224, 1679689⟩, ⟨4, 432, 1775594, 1775594, 49248, 38, 49248, 38⟩, ⟨0, 144, 1775595, 1776890, 49251, 1371, 1776816, 1679691⟩, ⟨0, 20, 1775628, 1773039, 49357, 49323, 1728975, 1775559⟩, ⟨0, 16, 1775629, 1774335, 49358, 49358, 1774335, 1775629⟩, ⟨0, 48, 1775630, 1776927, 49356, 46731, 1776853, 1727643⟩, ⟨0, 272, 1775631, 1775631, 49359, 48027, 49359, 48027⟩, ⟨0, 16, 1775632, 1776964, 49360, 49360, 1776964, 1775632⟩, ⟨0, 260, 1776816, 1679691, 1776890, 1775595, 1371, 49251⟩, ⟨2, 0, 1776817, 1680987, 1776891, 1776891, 1680987, 1776817⟩, ⟨0, 32, 1776818, 1682283, 1776888, 1773003, 1682247, 1728867⟩, ⟨0, 0, 1776819, 1682318, 1776889, 1774299, 1682317, 1774227⟩, ⟨0, 0, 1776820, 1682320, 1776892, 1776892, 1682320, 1776820⟩, ⟨0, 68, 1776852, 1726347, 1776926, 1776926, 1726347, 1776852⟩, ⟨0, 320, 1776853, 1727643, 1776927, 1775630, 46731, 49356⟩, ⟨0, 96, 1776854, 1728939, 1776924, 1773038, 1772967, 1728972⟩, ⟨0, 64, 1776855, 1728974, 1776925, 1774334, 1773037, 1774332⟩, ⟨0, 64, 1776856, 1728976, 1776928, 1776962, 1773040, 1776960⟩, ⟨0, 4, 1776888, 1773003, 1776818, 1682283, 1728867, 1682247⟩, ⟨0, 0, 1776889, 1774299, 1776819, 1682318, 1774227, 1682317⟩, ⟨0, 288, 1776890, 1775595, 1776816, 1679691, 49251, 1371⟩, ⟨4, 0, 1776891, 1776891, 1776817, 1680987, 1776817, 1680987⟩, ⟨0, 0, 1776892, 1776892, 1776820, 1682320, 1776820, 1682320⟩, ⟨0, 132, 1776924, 1773038, 1776854, 1728939, 1728972, 1772967⟩, ⟨0, 128, 1776925, 1774334, 1776855, 1728974, 1774332, 1773037⟩, ⟨0, 160, 1776926, 1776926, 1776852, 1726347, 1776852, 1726347⟩, ⟨0, 384, 1776927, 1775630, 1776853, 1727643, 49356, 46731⟩, ⟨0, 128, 1776928, 1776962, 1776856, 1728976, 1776960, 1773040⟩, ⟨0, 4, 1776960, 1773040, 1776962, 1776928, 1728976, 1776856⟩, ⟨0, 0, 1776961, 1774336, 1776963, 1776963, 1774336, 1776961⟩, ⟨0, 32, 1776962, 1776928, 1776960, 1773040, 1776856, 1728976⟩, ⟨0, 0, 1776963, 1776963, 1776961, 1774336, 1776961, 1774336⟩, ⟨0, 256, 1776964, 1775632, 1776964, 1775632, 49360, 49360⟩, ⟨0, 0, 1776965, 1776965, 1776965, 1776965, 1776965, 1776965⟩]
theorem DL_eq : (exL 6 0).map dW = DL := by decide +kernel
def cnt2 (p : DW → DW → Bool) : List DW → List DW → Nat
  | [], _ => 0
  | a :: l, m => cnt1 (p a) m + cnt2 p l m
where cnt1 (q : DW → Bool) : List DW → Nat
  | [] => 0
  | b :: m => bif q b then Nat.succ (cnt1 q m) else cnt1 q m
theorem cnt_7145 : cnt2 ok2 DL DL = 7145 := by decide +kernel
theorem cnt_1497 : cnt2 (fun a b => ok2 a b && fitT a.mm b.mm) DL DL = 1497 := by decide +kernel
theorem words6 : ((exL 6 0).all fun u => decide (rnI [] u = u) && u.all in6 && (List.range 6).all fun j => (pwW j u).all in6 && decide ((pwW j u).length = 6)) = true := by decide +kernel
end Gp
set_option linter.unusedVariables false
set_option linter.unusedSimpArgs false
namespace Gp
open Gw Gq
theorem word_ok {u : List Int} (h : u ∈ exL 6 0) : u.length = 6 ∧ rnI [] u = u ∧ u.all in6 = true ∧ ∀ j, j < 6 → (pwW j u).all in6 = true ∧ (pwW j u).length = 6 := by
  have := List.all_eq_true.1 words6 u h
  rw [Bool.and_eq_true, Bool.and_eq_true, decide_eq_true_eq] at this
  obtain ⟨⟨h1, h2⟩, h3⟩ := this
  refine ⟨exL_len 6 0 u h, h1, h2, fun j hj => ?_⟩
  have := List.all_eq_true.1 h3 j (List.mem_range.2 hj)
  rw [Bool.and_eq_true, decide_eq_true_eq] at this
  exact this
theorem canF_iff {s : List Tile} (hs : s.length ≤ 3) (h : rn s = s) : canF s = s ↔ ∀ j, j < 6 → befB (rn (perS s (plN.getD j []))) s = false := by
  constructor
  · intro hc j hj
    have := (canF_spec hs).2 _ ((perS_mem hs).2 ⟨j, hj, rfl⟩)
    rw [hc] at this
    exact this
  · intro ha
    obtain ⟨⟨y, hy, e⟩, mz⟩ := canF_spec hs
    obtain ⟨j, hj, ey⟩ := (perS_mem hs).1 hy
    have b1 := ha j hj
    rw [← ey, ← e] at b1
    have b2 := mz s (self_ord hs)
    rw [h] at b2
    rcases ltL_tot (numL (canF s)) (numL s) with h | h | h
    · exact numL_inj h
    · have b1 : ltL (numL (canF s)) (numL s) = false := b1
      rw [b1] at h; cases h
    · have b2 : ltL (numL s) (numL (canF s)) = false := b2
      rw [b2] at h; cases h
theorem per_word {u v : List Int} (hu : u.length = 6) (hv : v.length = 6) {j : Nat} (hj : j < 6) : vertL (perS (mkS u v) (plN.getD j [])) = perW (plN.getD j []) u ∧ horL (perS (mkS u v) (plN.getD j [])) = perW (plN.getD j []) v := by
  obtain ⟨a, b, c, d, e, f, rfl⟩ := len6 hu
  obtain ⟨a', b', c', d', e', f', rfl⟩ := len6 hv
  have : j = 0 ∨ j = 1 ∨ j = 2 ∨ j = 3 ∨ j = 4 ∨ j = 5 := by omega
  rcases this with rfl | rfl | rfl | rfl | rfl | rfl <;> exact ⟨rfl, rfl⟩
theorem rn_mkS {s : List Tile} : rn s = mkS (rnI [] (vertL s)) (rnI [] (horL s)) := (rn_mk s [] []).symm
theorem valid_em {u v : List Int} (hu : u.length = 6) (hv : v.length = 6) (iu : u.all in6 = true) (iv : v.all in6 = true) : validT (mkS u v) = Nat.beq (Nat.land (emW u) (emW v)) 0 := by
  obtain ⟨a, b, c, d, e, f, rfl⟩ := len6 hu
  obtain ⟨a', b', c', d', e', f', rfl⟩ := len6 hv
  simp only [List.all_cons, List.all_nil, Bool.and_true, Bool.and_eq_true, in6, decide_eq_true_eq] at iu iv
  have h1 : validT (mkS [a, b, c, d, e, f] [a', b', c', d', e', f']) = true ↔ ¬ ((a = c ∧ b = d) ∧ (a' = c' ∧ b' = d')) ∧ ¬ ((a = e ∧ b = f) ∧ (a' = e' ∧ b' = f')) ∧ ¬ ((c = e ∧ d = f) ∧ (c' = e' ∧ d' = f')) := by
    rw [vN_iff]
    simp only [mkS, List.length_cons, List.length_nil, List.nodup_cons, List.mem_cons, List.not_mem_nil, or_false, Tile.mk.injEq, not_false_eq_true, List.nodup_nil, and_true, not_or]
    constructor
    · rintro ⟨_, ⟨⟨h1, h2⟩, h3⟩, _⟩
      refine ⟨fun h => h1 ⟨h.1.1, h.2.1, h.1.2, h.2.2⟩, fun h => h2 ⟨h.1.1, h.2.1, h.1.2, h.2.2⟩, fun h => h3 ⟨h.1.1, h.2.1, h.1.2, h.2.2⟩⟩
    · rintro ⟨h1, h2, h3⟩
      refine ⟨by omega, ⟨⟨fun h => h1 ⟨⟨h.1, h.2.2.1⟩, h.2.1, h.2.2.2⟩, fun h => h2 ⟨⟨h.1, h.2.2.1⟩, h.2.1, h.2.2.2⟩⟩, fun h => h3 ⟨⟨h.1, h.2.2.1⟩, h.2.1, h.2.2.2⟩⟩, fun t ht => ?_⟩
      rw [colB_iff]
      rcases ht with rfl | rfl | rfl <;> simp only <;> omega
  have h2 : ∀ p1 p2 p3 q1 q2 q3 : Bool, Nat.beq (Nat.land (p1.toNat + 2 * p2.toNat + 4 * p3.toNat) (q1.toNat + 2 * q2.toNat + 4 * q3.toNat)) 0 = (!(p1 && q1) && !(p2 && q2) && !(p3 && q3)) := by decide
  have e1 : emW [a, b, c, d, e, f] = (decide (a = c) && decide (b = d)).toNat + 2 * (decide (a = e) && decide (b = f)).toNat + 4 * (decide (c = e) && decide (d = f)).toNat := rfl
  have e2 : emW [a', b', c', d', e', f'] = (decide (a' = c') && decide (b' = d')).toNat + 2 * (decide (a' = e') && decide (b' = f')).toNat + 4 * (decide (c' = e') && decide (d' = f')).toNat := rfl
  rw [e1, e2, h2, Bool.eq_iff_iff, h1]
  simp only [Bool.and_eq_true, Bool.not_eq_true', Bool.and_eq_false_iff, decide_eq_false_iff_not, decide_eq_true_eq]
  constructor
  · rintro ⟨g1, g2, g3⟩
    refine ⟨⟨?_, ?_⟩, ?_⟩ <;> omega
  · rintro ⟨⟨g1, g2⟩, g3⟩
    refine ⟨?_, ?_, ?_⟩ <;> omega
theorem ok2_eq {u v : List Int} (hu : u ∈ exL 6 0) (hv : v ∈ exL 6 0) : okS (mkS u v) = ok2 (dW u) (dW v) := by
  obtain ⟨lu, ru, iu, pu⟩ := word_ok hu
  obtain ⟨lv, rv, iv, pv⟩ := word_ok hv
  obtain ⟨m1, m2, m3⟩ := mkS_all 3 u v lu lv
  have hr : rn (mkS u v) = mkS u v := by rw [rn_mkS, m2, m3, ru, rv]
  have key : ∀ j, j < 6 → befB (rn (perS (mkS u v) (plN.getD j []))) (mkS u v) = decide (6 * dig (pwW j u) + dig (pwW j v) < 6 * dig u + dig v) := fun j hj => by
    obtain ⟨p1, p2⟩ := per_word lu lv hj
    rw [rn_mkS, p1, p2]
    exact bef_dig (pu j hj).2 (pv j hj).2 lu lv (pu j hj).1 (pv j hj).1 iu iv
  have h0 : pwW 0 u = u ∧ pwW 0 v = v := by
    constructor
    · obtain ⟨a, b, c, d, e, f, rfl⟩ := len6 lu
      exact ru
    · obtain ⟨a, b, c, d, e, f, rfl⟩ := len6 lv
      exact rv
  have hc := canF_iff (s := mkS u v) (by omega) hr
  unfold okS ok2
  rw [valid_em lu lv iu iv]
  show (Nat.beq (Nat.land (emW u) (emW v)) 0 && _) = bif Nat.beq (Nat.land (emW u) (emW v)) 0 then _ else false
  cases Nat.beq (Nat.land (emW u) (emW v)) 0
  · rfl
  · rw [Bool.true_and, cond_true, Bool.eq_iff_iff, decide_eq_true_eq, hc]
    have hb : ∀ (x y : Nat) (z : Bool), (bif Nat.ble x y then z else false) = true ↔ x ≤ y ∧ z = true := fun x y z => by
      cases h : Nat.ble x y
      · simp only [cond_false, Bool.false_eq_true, false_iff, not_and]
        intro h2; rw [Nat.ble_eq_true_of_le h2] at h; cases h
      · simp only [cond_true]
        exact ⟨fun h2 => ⟨Nat.le_of_ble_eq_true h, h2⟩, fun h2 => h2.2⟩
    rw [hb, hb, hb, hb, Nat.ble_eq]
    simp only [dW]
    constructor
    · intro ha
      have q : ∀ j, j < 6 → 6 * dig u + dig v ≤ 6 * dig (pwW j u) + dig (pwW j v) := fun j hj => by
        have := ha j hj
        rw [key j hj, decide_eq_false_iff_not] at this
        omega
      exact ⟨q 1 (by omega), q 2 (by omega), q 3 (by omega), q 4 (by omega), q 5 (by omega)⟩
    · rintro ⟨q1, q2, q3, q4, q5⟩ j hj
      rw [key j hj, decide_eq_false_iff_not]
      have : j = 0 ∨ j = 1 ∨ j = 2 ∨ j = 3 ∨ j = 4 ∨ j = 5 := by omega
      rcases this with rfl | rfl | rfl | rfl | rfl | rfl
      · rw [h0.1, h0.2]; omega
      all_goals omega
theorem mk9_congr {g h : Nat → Bool} (e : ∀ k, k < 9 → g k = h k) : mk9 g = mk9 h := by
  unfold mk9
  rw [e 0 (by omega), e 1 (by omega), e 2 (by omega), e 3 (by omega), e 4 (by omega), e 5 (by omega), e 6 (by omega), e 7 (by omega), e 8 (by omega)]
theorem mm_eq {u v : List Int} (hu : u.length = 6) (hv : v.length = 6) : mkM (vR (mkS u v)) = mmW u ∧ mkM (hR (mkS u v)) = mmW v := by
  obtain ⟨a, b, c, d, e, f, rfl⟩ := len6 hu
  obtain ⟨a', b', c', d', e', f', rfl⟩ := len6 hv
  have h3 : ∀ k, k < 9 → k = 0 ∨ k = 1 ∨ k = 2 ∨ k = 3 ∨ k = 4 ∨ k = 5 ∨ k = 6 ∨ k = 7 ∨ k = 8 := fun k hk => by omega
  constructor
  · unfold mkM mmW
    refine mk9_congr fun k hk => ?_
    rcases h3 k hk with rfl | rfl | rfl | rfl | rfl | rfl | rfl | rfl | rfl <;>
      (unfold vR; rw [Bool.eq_iff_iff, decide_eq_true_eq, decide_eq_true_eq]; exact ⟨fun h => h.2.2, fun h => ⟨by show _ < 3; decide, by show _ < 3; decide, h⟩⟩)
  · unfold mkM mmW
    refine mk9_congr fun k hk => ?_
    rcases h3 k hk with rfl | rfl | rfl | rfl | rfl | rfl | rfl | rfl | rfl <;>
      (unfold hR; rw [Bool.eq_iff_iff, decide_eq_true_eq, decide_eq_true_eq]; exact ⟨fun h => h.2.2, fun h => ⟨by show _ < 3; decide, by show _ < 3; decide, h⟩⟩)
theorem cnt1_len (q : DW → Bool) : ∀ m : List DW, cnt2.cnt1 q m = (m.filter q).length
  | [] => rfl
  | b :: m => by
    rw [cnt2.cnt1, cnt1_len q m, List.filter_cons]
    cases q b <;> rfl
theorem cnt2_len (p : DW → DW → Bool) : ∀ l m : List DW, cnt2 p l m = (l.map fun a => (m.filter (p a)).length).sum
  | [], m => rfl
  | a :: l, m => by rw [cnt2, cnt1_len, cnt2_len p l m, List.map_cons, List.sum_cons]
theorem count_form {n : Nat} (p : List Tile → Bool) : ((formL n).filter p).length = ((exL (2 * n) 0).map fun u => ((exL (2 * n) 0).filter fun v => okS (mkS u v) && p (mkS u v)).length).sum := by
  have key : ∀ L : List (List Int), ((L.flatMap (rowG n)).filter p).length = (L.map fun u => ((exL (2 * n) 0).filter fun v => okS (mkS u v) && p (mkS u v)).length).sum := fun L => by
    induction L with
    | nil => rfl
    | cons u L ih =>
      rw [List.flatMap_cons, List.filter_append, List.length_append, ih, List.map_cons, List.sum_cons]
      congr 1
      unfold rowG
      rw [List.filter_filter, List.filter_map, List.length_map]
      congr 2
      funext v
      exact Bool.and_comm _ _
  exact key _
theorem map_sum (p : List Tile → Bool) (q : DW → DW → Bool) (h : ∀ u ∈ exL 6 0, ∀ v ∈ exL 6 0, (okS (mkS u v) && p (mkS u v)) = q (dW u) (dW v)) : ((formL 3).filter p).length = cnt2 q DL DL := by
  rw [count_form, cnt2_len, ← DL_eq, List.map_map]
  congr 1
  refine List.map_congr_left fun u hu => ?_
  show _ = (((exL 6 0).map dW).filter (q (dW u))).length
  rw [List.filter_map, List.length_map]
  congr 1
  refine List.filter_congr fun v hv => ?_
  exact h u hu v hv
theorem many3 : (formL 3).length = 7145 := by
  have := map_sum (fun _ => true) ok2 fun u hu v hv => by rw [Bool.and_true]; exact ok2_eq hu hv
  rw [List.filter_eq_self.2 (fun _ _ => rfl), cnt_7145] at this
  exact this
theorem fill3 : ((formL 3).filter fun s => fillB s 4).length = 1497 := by
  rw [← cnt_1497]
  refine map_sum _ _ fun u hu v hv => ?_
  have l1 := exL_len 6 0 u hu
  have l2 := exL_len 6 0 v hv
  obtain ⟨m1, m2⟩ := mm_eq l1 l2
  rw [ok2_eq hu hv, fitT_iff (by rw [(mkS_all 3 u v l1 l2).1]; omega), m1, m2]
  rfl
theorem fill_as {n : Nat} (hn : n ≤ 3) : ((formL n).filter fun s => fillB s 4) = (formL n).filter fun s => fitT (mkM (vR s)) (mkM (hR s)) := List.filter_congr fun s hs => fitT_iff (by rw [formL_len hs]; exact hn)
def wantS : Nat → Nat
  | 0 => 1
  | 1 => 4
  | 2 => 133
  | _ => 7145
def wantF : Nat → Nat
  | 0 => 0
  | 1 => 1
  | 2 => 29
  | _ => 1497
theorem small_f : ∀ n, n < 3 → (formL n).length = wantS n ∧ ((formL n).filter fun s => fitT (mkM (vR s)) (mkM (hR s))).length = wantF n := by
  decide +kernel
theorem counts {n : Nat} (hn : n ≤ 3) : (formL n).length = wantS n ∧ ((formL n).filter fun s => fillB s 4).length = wantF n := by
  by_cases h : n < 3
  · rw [fill_as hn]; exact small_f n h
  · obtain rfl : n = 3 := by omega
    exact ⟨many3, fill3⟩
/-! the tally -/
theorem dec_bounds {s : List Tile} (h3 : s.length ≤ 3) : (decV s).1.Fills = fillB s 4 ∧ (decV s).1.Torus.Cells.length ≤ 9 ∧ (decV s).1.Side ≤ 4 := by
  rcases dec_cases h3 with ⟨n, hn, e1, e2, e3, e4, e5, e6⟩ | ⟨p, e1, e2, e3, e6⟩
  · rw [e5, e6]
    refine ⟨rfl, by show 0 ≤ 9; omega, ?_⟩
    show (n : Int) ≤ 4
    rcases Nat.lt_or_ge 4 n with h | h
    · exfalso
      have h4 := e3 4 (by omega) h
      rw [sqE_few (few3 h3 (by omega)) (by omega)] at h4
      rw [show fillB s (4 : Nat) = false from e6] at h4
      cases congrArg Prod.fst h4
    · omega
  · rw [e3, e6]
    refine ⟨rfl, ?_, by show (0 : Int) ≤ 4; omega⟩
    show p.Cells.length ≤ 9
    obtain ⟨w, h, f, hw, hh, ht, rfl, hmin⟩ := least_some (by omega) e2
    rcases census3 s h3 with ⟨w', h', f', hw', hh', ht'⟩ | hno
    · have hle : ¬ h' * w' < h * w := fun hlt => hmin w' h' hw'.1 (by omega) hh'.1 (by omega) hlt f' ht'
      have h9 : h' * w' ≤ 3 * 3 := Nat.mul_le_mul hh'.2 hw'.2
      have hc : (patR w h f).Cells.length = h * w := (patR_cells ht.fill).1
      omega
    · exact absurd ((fillB_iff s (by omega) (by omega)).1 e6) hno
theorem tal_ok : ∀ (R : List (List Tile)) (m : Nat) (c q : Int), (∀ s ∈ R, s.length ≤ 3) → m + R.length ≤ 1000000 → c ≤ 9 → q ≤ 4 → (talF R ((m : Int), c, q)).1 = ((m + (R.filter fun s => fillB s 4).length : Nat) : Int) ∧ (talF R ((m : Int), c, q)).2.1 ≤ 9 ∧ (talF R ((m : Int), c, q)).2.2 ≤ 4
  | [], m, c, q, _, _, hc, hq => ⟨rfl, hc, hq⟩
  | s :: R, m, c, q, hR, hl, hc, hq => by
    rw [List.length_cons] at hl
    obtain ⟨b1, b2, b3⟩ := dec_bounds (hR s List.mem_cons_self)
    have hm9 : ∀ a b k : Int, a ≤ k → b ≤ k → maxI a b ≤ k := fun a b k h1 h2 => by unfold maxI; split <;> omega
    rw [talF, List.filter_cons]
    simp only [b1]
    have hw : w64 ((m : Int) + 1) = ((m + 1 : Nat) : Int) := by rw [w64_id (by omega) (by omega)]; rfl
    cases hf : fillB s 4
    · have := tal_ok R m (maxI c ((decV s).1.Torus.Cells.length : Int)) (maxI q (decV s).1.Side) (fun t ht => hR t (List.mem_cons_of_mem _ ht)) (by omega) (hm9 _ _ _ hc (by omega)) (hm9 _ _ _ hq b3)
      simpa using this
    · have := tal_ok R (m + 1) (maxI c ((decV s).1.Torus.Cells.length : Int)) (maxI q (decV s).1.Side) (fun t ht => hR t (List.mem_cons_of_mem _ ht)) (by omega) (hm9 _ _ _ hc (by omega)) (hm9 _ _ _ hq b3)
      rw [hw]
      simp only [if_true, List.length_cons]
      refine ⟨?_, this.2⟩
      rw [this.1]
      congr 1
      omega
theorem cen_step {n : Nat} (hn : n ≤ 3) {k : Nat} (hk : 600000 ≤ k) : top_TopCensus.l0 (k + 1) n = top_TopCensus.l0 k ((n + 1 : Nat) : Int) := by
  obtain ⟨R, h1, h3, h4⟩ := forms_ok (n := n) hn (k := k) (by omega)
  have c1 := cntC_ok hn hk h1 h3
  obtain ⟨w1, w2⟩ := counts hn
  have hR : ∀ s ∈ R, s.length ≤ 3 := fun s hs => by rw [formL_len (h3.mem_iff.1 hs)]; exact hn
  have hl : R.length = wantS n := h3.length_eq.trans w1
  have hmany := formL_many hn
  obtain ⟨t1, t2, t3⟩ := tal_ok R 0 0 0 hR (by omega) (by omega) (by omega)
  have hf : (R.filter fun s => fillB s 4).length = wantF n := (h3.filter _).length_eq.trans w2
  rw [hf, Nat.zero_add] at t1
  have t1 : (talF R (0, 0, 0)).1 = (wantF n : Int) := t1
  have t2 : (talF R (0, 0, 0)).2.1 ≤ 9 := t2
  have t3 : (talF R (0, 0, 0)).2.2 ≤ 4 := t3
  have hwx : w64 ((n : Int) + 1) = ((n + 1 : Nat) : Int) := by rw [w64_id (by omega) (by omega)]; rfl
  have a1 : A4_Int.get (A4_Int.mk 1 4 133 7145) (n : Int) = (wantS n : Int) := by
    have : n = 0 ∨ n = 1 ∨ n = 2 ∨ n = 3 := by omega
    rcases this with rfl | rfl | rfl | rfl <;> rfl
  have a2 : A4_Int.get (A4_Int.mk 0 1 29 1497) (n : Int) = (wantF n : Int) := by
    have : n = 0 ∨ n = 1 ∨ n = 2 ∨ n = 3 := by omega
    rcases this with rfl | rfl | rfl | rfl <;> rfl
  rw [top_TopCensus.l0, if_pos (by rw [decide_eq_true_eq]; omega), c1, Option.bind_some]
  simp only [a1, a2, hl, t1, bne_self_eq_false, Bool.false_eq_true, if_false]
  rw [if_neg (by rw [decide_eq_true_eq]; omega), if_pos (by omega), decide_eq_false (by omega), Option.bind_some, if_neg (by decide), hwx]
theorem top_TopCensus_pure : ∃ k, top_TopCensus k = some true := by
  refine ⟨999700 + 300, ?_⟩
  have aw : top_decides (999700 + 300) = some true := decides_ok _
  have e : top_TopCensus.l0 (999700 + 300) 0 = some (.inr ()) := by
    have s0 := cen_step (n := 0) (by omega) (k := 999999) (by omega)
    have s1 := cen_step (n := 1) (by omega) (k := 999998) (by omega)
    have s2 := cen_step (n := 2) (by omega) (k := 999997) (by omega)
    have s3 := cen_step (n := 3) (by omega) (k := 999996) (by omega)
    have s0 : top_TopCensus.l0 (999700 + 300) 0 = _ := s0
    rw [s0]
    refine s1.trans (s2.trans (s3.trans ?_))
    have : top_TopCensus.l0 (999995 + 1) ((3 + 1 : Nat) : Int) = some (.inr ()) := by rw [top_TopCensus.l0, if_neg (by decide)]
    exact this
  unfold top_TopCensus
  rw [e, Option.bind_some]
  show (top_decides (999700 + 300)).bind (fun t => some t) = _
  rw [aw]; rfl
end Gp
