/- The plain law: what the functions compute answers as the statement says. -/
import Derived.Test.YtfehljifahnipaaGreatDoorGp
import Derived.KernelRfl
import Derived.Lib.Mul64
set_option linter.unusedVariables false
set_option linter.unusedSimpArgs false
namespace Gq
open Go Gw Gp
/-! ### numbers and lists -/
theorem w64_id {n : Int} (h0 : -9223372036854775808 ≤ n) (h1 : n ≤ 9223372036854775807) : w64 n = n := by
  show IntKind.i64.wrap n = n
  have e : IntKind.i64.wrap n = if (true && decide (n % 18446744073709551616 ≥ 9223372036854775808)) = true then n % 18446744073709551616 - 18446744073709551616 else n % 18446744073709551616 := rfl
  rw [e]
  simp only [Bool.true_and, decide_eq_true_eq]
  split <;> omega
theorem rdD_nat {α : Type} (xs : List α) (i : Nat) (d : α) : rdD xs (i : Int) d = xs.getD i d := by simp [rdD]
theorem rdD_get {α : Type} {xs : List α} {i : Nat} (h : i < xs.length) (d : α) : rdD xs (i : Int) d = xs[i] := by
  simp [rdD, List.getD, List.getElem?_eq_getElem h]
def firstS {α β : Type} (g : Nat → α → Option β) : Nat → List α → Option β
  | _, [] => none
  | i, a :: r => match g i a with
    | some b => some b
    | none => firstS g (i + 1) r
def fin {β : Type} : Option β → Sum β Unit
  | some b => .inl b
  | none => .inr ()
theorem scan {α β : Type} {F : Nat → Int → Option (Sum β Unit)} {xs : List α} {g : Nat → α → Option β}
    (hF : ∀ k (i : Nat), i ≤ xs.length → F (k + 1) (i : Int) = if h : i < xs.length then (match g i xs[i] with | some b => some (.inl b) | none => F k ((i + 1 : Nat) : Int)) else some (.inr ())) :
    ∀ (n k i : Nat), i + n = xs.length → n < k → F k (i : Int) = some (fin (firstS g i (xs.drop i)))
  | 0, k, i, hi, hk => by
    obtain ⟨k, rfl⟩ : ∃ m, k = m + 1 := ⟨k - 1, by omega⟩
    have hi : i = xs.length := by omega
    subst hi
    rw [hF k _ (Nat.le_refl _), dif_neg (Nat.lt_irrefl _), List.drop_length]; rfl
  | n + 1, k, i, hi, hk => by
    obtain ⟨k, rfl⟩ : ∃ m, k = m + 1 := ⟨k - 1, by omega⟩
    have hlt : i < xs.length := by omega
    rw [hF k i (by omega), dif_pos hlt, List.drop_eq_getElem_cons hlt, firstS]
    cases hg : g i xs[i] with
    | some b => rfl
    | none => exact scan hF n k (i + 1) (by omega) (by omega)
end Gq
set_option linter.unusedVariables false
set_option linter.unusedSimpArgs false
namespace Gq
theorem flat_succ {α : Type} (f : Nat → List α) (n : Nat) : (List.range (n + 1)).flatMap f = (List.range n).flatMap f ++ f n := by
  rw [List.range_succ, List.flatMap_append]; simp
theorem map_succ {α : Type} (f : Nat → α) (n : Nat) : (List.range (n + 1)).map f = (List.range n).map f ++ [f n] := by
  rw [List.range_succ, List.map_append]; simp
end Gq
namespace Gp
open Gw Gq
/-! ### the tiles of a machine -/
def hd (Y q s : Nat) : Int := ((Y + q * Y + s : Nat) : Int)
end Gp
set_option linter.unusedVariables false
set_option linter.unusedSimpArgs false
namespace Gq
theorem flat_get {α : Type} {f : Nat → List α} : ∀ {n q j : Nat} {t : α}, q < n → (f q)[j]? = some t → ((List.range n).flatMap f)[((List.range q).flatMap f).length + j]? = some t
  | 0, q, j, t, h, _ => by omega
  | n + 1, q, j, t, h, hj => by
    rw [flat_succ, List.getElem?_append]
    by_cases hq : q < n
    · have := flat_get (n := n) hq hj
      rw [if_pos (by by_cases hl : ((List.range q).flatMap f).length + j < ((List.range n).flatMap f).length
                     · exact hl
                     · rw [List.getElem?_eq_none (by omega)] at this; cases this)]
      exact this
    · have : q = n := by omega
      subst this
      rw [if_neg (by omega), show ((List.range q).flatMap f).length + j - ((List.range q).flatMap f).length = j by omega]; exact hj
theorem flat_len {α : Type} {f : Nat → List α} {b : Nat} (hf : ∀ i, (f i).length = b) : ∀ n, ((List.range n).flatMap f).length = n * b
  | 0 => by simp
  | n + 1 => by
    rw [flat_succ, List.length_append, Nat.add_mul, Nat.one_mul, flat_len hf n, hf n]
end Gq
namespace Gp
open Gw Gq
/-! ### where the tiles of a machine lie -/
end Gp
set_option linter.unusedVariables false
set_option linter.unusedSimpArgs false
namespace Gp
open Gw Gq
/-! ### the tile that shows a cell of a step -/
theorem Tile.ext' {a b : Tile} (h1 : a.N = b.N) (h2 : a.E = b.E) (h3 : a.S = b.S) (h4 : a.W = b.W) : a = b := by
  cases a; cases b; simp only at h1 h2 h3 h4; subst h1 h2 h3 h4; rfl
end Gp
set_option linter.unusedVariables false
set_option linter.unusedSimpArgs false
namespace Gq
theorem loop_all {σ ρ τ : Type} {F : Nat → Int → σ → Option (Sum ρ τ)} {S : Nat → σ} {b : Nat → Bool} {n K : Nat} {r : ρ} {e : τ} (hs : ∀ k i, K ≤ k → i < n → F (k + 1) (i : Int) (S i) = if b i = true then F k ((i + 1 : Nat) : Int) (S (i + 1)) else some (.inl r)) (he : ∀ k, F (k + 1) (n : Int) (S n) = some (.inr e)) :
    ∀ k, n + K < k → F k 0 (S 0) = some (if (List.range n).all b = true then .inr e else .inl r) := by
  have key : ∀ d i k, i + d = n → d + K < k → F k (i : Int) (S i) = some (if (List.range' i d).all b = true then .inr e else .inl r) := by
    intro d
    induction d with
    | zero =>
      intro i k hi hk
      obtain ⟨k, rfl⟩ : ∃ m, k = m + 1 := ⟨k - 1, by omega⟩
      have : i = n := by omega
      subst this; rw [he]; rfl
    | succ d ih =>
      intro i k hi hk
      obtain ⟨k, rfl⟩ : ∃ m, k = m + 1 := ⟨k - 1, by omega⟩
      rw [hs k i (by omega) (by omega), List.range'_succ, List.all_cons]
      cases hb : b i
      · rfl
      · rw [if_pos rfl, ih (i + 1) k (by omega) (by omega)]; rfl
  intro k hk
  rw [List.range_eq_range']
  exact key n 0 k (by omega) hk
theorem firstS_ge' {α : Type} {p : α → Bool} : ∀ (xs : List α) (i : Nat), (match firstS (fun i a => if p a = true then none else some (i : Int)) i xs with
    | some x => decide (0 ≤ x)
    | none => false) = !xs.all p
  | [], i => rfl
  | a :: r, i => by
    rw [firstS]
    cases h : p a
    · simp [h]
    · simp only [if_true, List.all_cons, h, Bool.true_and]
      exact firstS_ge' r (i + 1)
end Gq
namespace Gp
open Gw Gq
/-! ### sets of tiles and patterns -/
def inCol (c : Int) : Bool := decide (0 ≤ c ∧ c < 1000)
def colB (t : Tile) : Bool := inCol t.N && inCol t.E && inCol t.S && inCol t.W
theorem idx_col (xs : List Int) (hl : xs.length ≤ 1000000) (k : Nat) (hk : xs.length < k) :
    slices_IndexFunc_int_int_with_tile_colour_1.l0 k 0 xs = some (fin (firstS (fun i a => if inCol a = true then none else some (i : Int)) 0 xs)) := by
  have := scan (F := fun k i => slices_IndexFunc_int_int_with_tile_colour_1.l0 k i xs) (xs := xs) (g := fun i a => if inCol a = true then none else some (i : Int)) (fun k i hi => by
    show slices_IndexFunc_int_int_with_tile_colour_1.l0 (k + 1) i xs = _
    rw [slices_IndexFunc_int_int_with_tile_colour_1.l0]
    by_cases h : i < xs.length
    · have h' : (i : Int) < (xs.length : Int) := by omega
      have h2 : 0 ≤ (i : Int) ∧ (i : Int) < (xs.length : Int) := by omega
      rw [dif_pos h, if_pos (by simpa using h'), if_pos h2, rdD_get h, tile_colour_1, w64_id (by omega) (by omega)]
      by_cases hb : 0 ≤ xs[i] ∧ xs[i] < 1000
      · have h3 : ¬ (xs[i] < 0 ∨ 1000 ≤ xs[i]) := by omega
        simp [inCol, hb]
        intro hh; exact absurd hh h3
      · have h3 : (xs[i] < 0 ∨ 1000 ≤ xs[i]) := by omega
        simp [inCol, hb, h3]
    · have h' : ¬ (i : Int) < (xs.length : Int) := by omega
      rw [dif_neg h, if_neg (by simpa using h')]) xs.length k 0 (by simp) hk
  simpa using this
theorem colour_eq (xs : List Int) (hl : xs.length ≤ 1000000) (k : Nat) (hk : xs.length < k) : tile_colour k xs = some (xs.all inCol) := by
  unfold tile_colour slices_ContainsFunc_int_int_with_tile_colour_1 slices_IndexFunc_int_int_with_tile_colour_1
  rw [idx_col xs hl k hk]
  have := firstS_ge' (p := inCol) xs 0
  cases hf : firstS (fun i a => if inCol a = true then none else some (i : Int)) 0 xs <;> rw [hf] at this <;> cases ha : xs.all inCol <;> rw [ha] at this <;> simp [fin, sumb] at this ⊢
  · exact this
  · exact this
def metS (set : List Tile) (i : Nat) : List (Tile × Bool) := (set.take i).map fun t => (t, true)
theorem mget_met (t : Tile) : ∀ l : List Tile, mget t false (l.map fun t => (t, true)) = decide (t ∈ l)
  | [] => rfl
  | a :: r => by
    simp only [List.map_cons, mget]
    by_cases h : t = a
    · simp [h]
    · rw [if_neg h, mget_met t r]; simp [h]
theorem mput_met (t : Tile) : ∀ l : List Tile, t ∉ l → mput t true (l.map fun t => (t, true)) = (l.map fun t => (t, true)) ++ [(t, true)]
  | [], _ => rfl
  | a :: r, h => by
    simp only [List.mem_cons, not_or] at h
    simp only [List.map_cons, mput, if_neg h.1, mput_met t r h.2, List.cons_append]
def newB (set : List Tile) (i : Nat) : Bool := !decide (set.getD i z_Tile ∈ set.take i) && colB (set.getD i z_Tile)
def validT (set : List Tile) : Bool := decide (set.length ≤ 1000) && (List.range set.length).all (newB set)
theorem tile_valid (set : List Tile) {k : Nat} (hk : 1006 ≤ k) (hl : set.length ≤ 9223372036854775807) : tile_Valid k set = some (validT set) := by
  unfold tile_Valid validT
  by_cases hb : set.length ≤ 1000
  · rw [if_neg (by simp; omega)]
    have := loop_all (F := fun k i (m : List (Tile × Bool)) => tile_Valid.l0 k m i set) (S := metS set) (b := newB set) (n := set.length) (K := 5) (r := false) (e := ()) (fun k i hk hi => by
      show tile_Valid.l0 (k + 1) (metS set i) i set = if newB set i = true then tile_Valid.l0 k (metS set (i + 1)) ((i + 1 : Nat) : Int) set else _
      rw [tile_Valid.l0, if_pos (by simpa using hi), if_pos (by omega), rdD_nat, metS, mget_met]
      have ht : set.getD i z_Tile = set[i] := by simp [List.getElem?_eq_getElem hi]
      unfold newB
      by_cases hm : set.getD i z_Tile ∈ set.take i
      · rw [if_pos (by simpa using hm), show decide (set.getD i z_Tile ∈ set.take i) = true from decide_eq_true hm]; rfl
      · rw [if_neg (by simpa using hm), colour_eq _ (by simp) k (by simp; omega), Option.bind_some, Option.bind_some]
        have hc : ([(set.getD i z_Tile).N, (set.getD i z_Tile).E, (set.getD i z_Tile).S, (set.getD i z_Tile).W].all inCol) = colB (set.getD i z_Tile) := by simp [colB, Bool.and_assoc]
        rw [hc]
        cases hcb : colB (set.getD i z_Tile)
        · simp
        · rw [mput_met _ _ hm, w64_id (by omega) (by omega)]
          simp only [hm, Bool.not_true, Bool.false_eq_true, if_false, decide_false, Bool.not_false, Bool.and_self, if_true]
          unfold metS
          rw [List.take_add_one, List.map_append, List.getElem?_eq_getElem hi, ht]; rfl) (fun k => by
      show tile_Valid.l0 (k + 1) (metS set set.length) set.length set = _
      rw [tile_Valid.l0, if_neg (by simp)]) k (by omega)
    have h0 : tile_Valid.l0 k [] 0 set = some (if (List.range set.length).all (newB set) = true then .inr () else .inl false) := this
    rw [h0]
    cases (List.range set.length).all (newB set) <;> simp [sumb, hb]
  · rw [if_pos (by simp; omega)]; simp [hb]
def formB (p : Pattern) : Bool := decide (1 ≤ p.Width ∧ 1 ≤ p.Height ∧ p.Width ≤ 40000 ∧ p.Height ≤ 40000 ∧ p.Width * p.Height ≤ 40000 ∧ (p.Cells.length : Int) = p.Width * p.Height)
theorem form_eq (p : Pattern) : tile_Form p = some (formB p) := by
  unfold tile_Form formB
  by_cases h : 1 ≤ p.Width ∧ 1 ≤ p.Height ∧ p.Width ≤ 40000 ∧ p.Height ≤ 40000
  · have h0 : 0 ≤ p.Width * p.Height := Int.mul_nonneg (by omega) (by omega)
    have h1 : p.Width * p.Height ≤ 40000 * 40000 := Int.mul_le_mul (by omega) (by omega) (by omega) (by omega)
    rw [w64_id (n := p.Width * p.Height) (by omega) (by omega)]
    simp [h]; rfl
  · congr 1
    have : ((((decide (p.Width ≥ 1)) && (decide (p.Height ≥ 1))) && (decide (p.Width ≤ 40000))) && (decide (p.Height ≤ 40000))) = false := by
      cases he : ((((decide (p.Width ≥ 1)) && (decide (p.Height ≥ 1))) && (decide (p.Width ≤ 40000))) && (decide (p.Height ≤ 40000)))
      · rfl
      · simp only [Bool.and_eq_true, decide_eq_true_eq] at he
        exact absurd ⟨he.1.1.1, he.1.1.2, he.1.2, he.2⟩ h
    rw [this]; simp only [Bool.false_and]
    exact (decide_eq_false (fun h' => h ⟨h'.1, h'.2.1, h'.2.2.1, h'.2.2.2.1⟩)).symm
def inSet (n : Nat) (c : Int) : Bool := decide (0 ≤ c ∧ c < (n : Int))
theorem idx_of (set : List Tile) (xs : List Int) (hl : xs.length ≤ 1000000) (k : Nat) (hk : xs.length < k) :
    slices_IndexFunc_int_int_with_tile_of_1.l0 k 0 xs set = some (fin (firstS (fun i a => if inSet set.length a = true then none else some (i : Int)) 0 xs)) := by
  have := scan (F := fun k i => slices_IndexFunc_int_int_with_tile_of_1.l0 k i xs set) (xs := xs) (g := fun i a => if inSet set.length a = true then none else some (i : Int)) (fun k i hi => by
    show slices_IndexFunc_int_int_with_tile_of_1.l0 (k + 1) i xs set = _
    rw [slices_IndexFunc_int_int_with_tile_of_1.l0]
    by_cases h : i < xs.length
    · have h' : (i : Int) < (xs.length : Int) := by omega
      have h2 : 0 ≤ (i : Int) ∧ (i : Int) < (xs.length : Int) := by omega
      rw [dif_pos h, if_pos (by simpa using h'), if_pos h2, rdD_get h, tile_of_1, w64_id (by omega) (by omega)]
      by_cases hb : 0 ≤ xs[i] ∧ xs[i] < (set.length : Int)
      · have h3 : ¬ (xs[i] < 0 ∨ (set.length : Int) ≤ xs[i]) := by omega
        simp [inSet, hb]
        intro hh; exact absurd hh h3
      · have h3 : (xs[i] < 0 ∨ (set.length : Int) ≤ xs[i]) := by omega
        simp [inSet, hb, h3]
    · have h' : ¬ (i : Int) < (xs.length : Int) := by omega
      rw [dif_neg h, if_neg (by simpa using h')]) xs.length k 0 (by simp) hk
  simpa using this
theorem contains_of (set : List Tile) (xs : List Int) (hl : xs.length ≤ 1000000) (k : Nat) (hk : xs.length < k) : slices_ContainsFunc_int_int_with_tile_of_1 k xs set = some (!xs.all (inSet set.length)) := by
  unfold slices_ContainsFunc_int_int_with_tile_of_1 slices_IndexFunc_int_int_with_tile_of_1
  rw [idx_of set xs hl k hk]
  have := firstS_ge' (p := inSet set.length) xs 0
  cases hf : firstS (fun i a => if inSet set.length a = true then none else some (i : Int)) 0 xs <;> rw [hf] at this <;> cases ha : xs.all (inSet set.length) <;> rw [ha] at this <;> simp [fin, sumb] at this ⊢
  · exact this
  · exact this
def ofB (set : List Tile) (p : Pattern) : Bool := validT set && formB p && p.Cells.all (inSet set.length)
theorem formB_len {p : Pattern} (h : formB p = true) : p.Cells.length ≤ 40000 := by
  unfold formB at h
  simp only [decide_eq_true_eq] at h
  omega
theorem of_eq (set : List Tile) (p : Pattern) {k : Nat} (hk : 40001 ≤ k) (hl : set.length ≤ 9223372036854775807) : tile_of k set p = some (ofB set p) := by
  unfold tile_of ofB
  rw [tile_valid set (by omega) hl, Option.bind_some, form_eq]
  cases hv : validT set
  · rfl
  · rw [if_pos rfl]
    cases hf : formB p
    · rfl
    · have := formB_len hf
      rw [Option.bind_some, Option.bind_some, if_pos rfl, contains_of set p.Cells (by omega) k (by omega)]
      simp
def tl (set : List Tile) (p : Pattern) (j : Nat) : Tile := set.getD (p.Cells.getD j 0).toNat z_Tile
def rightB (set : List Tile) (p : Pattern) (W H : Nat) (round : Bool) (i : Nat) : Bool := !(decide (i % W + 1 < W) || round) || (tl set p i).E == (tl set p (i / W * W + (i % W + 1) % W)).W
def upB (set : List Tile) (p : Pattern) (W H : Nat) (round : Bool) (i : Nat) : Bool := !(decide (i / W + 1 < H) || round) || (tl set p i).N == (tl set p ((i / W + 1) % H * W + i % W)).S
structure PForm (set : List Tile) (p : Pattern) (W H : Nat) : Prop where
  w : p.Width = W
  h : p.Height = H
  dW : 1 ≤ W ∧ W ≤ 40000
  dH : 1 ≤ H ∧ H ≤ 40000
  wh : H * W ≤ 40000
  len : p.Cells.length = H * W
  cel : ∀ j, j < H * W → 0 ≤ p.Cells.getD j 0 ∧ p.Cells.getD j 0 < (set.length : Int)
theorem PForm.tl {set : List Tile} {p : Pattern} {W H : Nat} (f : PForm set p W H) {j : Nat} (hj : j < H * W) : rdD set (p.Cells.getD j 0) z_Tile = Gp.tl set p j ∧ (0 ≤ p.Cells.getD j 0 ∧ p.Cells.getD j 0 < (set.length : Int)) := ⟨rfl, f.cel j hj⟩
theorem place_lt {W H x y : Nat} (hx : x < W) (hy : y < H) : y * W + x < H * W := by
  have := Nat.mul_le_mul_right W (show y + 1 ≤ H by omega)
  rw [Nat.succ_mul] at this; omega
theorem joins_eq {set : List Tile} {p : Pattern} {W H : Nat} (f : PForm set p W H) (round : Bool) {k : Nat} (hk : 40001 ≤ k) : tile_joins k set p round = some ((List.range (H * W)).all fun i => rightB set p W H round i && upB set p W H round i) := by
  have hwh := f.wh
  have hdW := f.dW
  have hdH := f.dH
  unfold tile_joins
  have := loop_all (F := fun k i (_ : Unit) => tile_joins.l0 k i set p round) (S := fun _ => ()) (b := fun i => rightB set p W H round i && upB set p W H round i) (n := H * W) (K := 0) (r := false) (e := ()) (fun k i _ hi => by
    show tile_joins.l0 (k + 1) i set p round = if (rightB set p W H round i && upB set p W H round i) = true then tile_joins.l0 k ((i + 1 : Nat) : Int) set p round else _
    obtain ⟨y, hyd⟩ : ∃ y, i / W = y := ⟨_, rfl⟩
    obtain ⟨x, hxd⟩ : ∃ x, i % W = x := ⟨_, rfl⟩
    obtain ⟨x2, hx2d⟩ : ∃ x2, (x + 1) % W = x2 := ⟨_, rfl⟩
    obtain ⟨y2, hy2d⟩ : ∃ y2, (y + 1) % H = y2 := ⟨_, rfl⟩
    have hx : x < W := hxd ▸ Nat.mod_lt _ (by omega)
    have hy : y < H := hyd ▸ Nat.div_lt_of_lt_mul (by rw [Nat.mul_comm]; exact hi)
    have hx2 : x2 < W := hx2d ▸ Nat.mod_lt _ (by omega)
    have hy2 : y2 < H := hy2d ▸ Nat.mod_lt _ (by omega)
    have hr := place_lt hx2 hy
    have hu := place_lt hx hy2
    have e1 : Int.tmod (i : Int) (W : Int) = (x : Int) := by rw [← hxd]; rfl
    have e2 : Int.tdiv (i : Int) (W : Int) = (y : Int) := by rw [← hyd]; rfl
    have e3 : w64 ((x : Int) + 1) = ((x + 1 : Nat) : Int) := by rw [w64_id (by omega) (by omega)]; rfl
    have e4 : w64 (y : Int) = (y : Int) := w64_id (by omega) (by omega)
    have e5 : w64 ((y : Int) + 1) = ((y + 1 : Nat) : Int) := by rw [w64_id (by omega) (by omega)]; rfl
    have e6 : Int.tmod ((x + 1 : Nat) : Int) (W : Int) = (x2 : Int) := by rw [← hx2d]; rfl
    have e7 : Int.tmod ((y + 1 : Nat) : Int) (H : Int) = (y2 : Int) := by rw [← hy2d]; rfl
    have e8 : w64 (w64 ((y : Int) * (W : Int)) + (x2 : Int)) = ((y * W + x2 : Nat) : Int) := by
      rw [← Int.natCast_mul, w64_id (n := ((y * W : Nat) : Int)) (by omega) (by omega), w64_id (by omega) (by omega)]; rfl
    have e9 : w64 (w64 ((y2 : Int) * (W : Int)) + (x : Int)) = ((y2 * W + x : Nat) : Int) := by
      rw [← Int.natCast_mul, w64_id (n := ((y2 * W : Nat) : Int)) (by omega) (by omega), w64_id (by omega) (by omega)]; rfl
    have c0 := f.tl hi
    have c1 := f.tl hr
    have c2 := f.tl hu
    have b1 : 0 ≤ ((y * W + x2 : Nat) : Int) ∧ ((y * W + x2 : Nat) : Int) < (p.Cells.length : Int) := by rw [f.len]; omega
    have b2 : 0 ≤ ((y2 * W + x : Nat) : Int) ∧ ((y2 * W + x : Nat) : Int) < (p.Cells.length : Int) := by rw [f.len]; omega
    rw [tile_joins.l0, if_pos (decide_eq_true (by rw [f.len]; exact Int.ofNat_lt.2 hi)), if_pos (by rw [f.len]; omega), f.w, f.h, if_pos (by omega)]
    simp only [e1, e2, e3, e4, e5, e6, e7, e8, e9, rdD_nat, if_pos c0.2, if_pos c1.2, if_pos c2.2, if_pos b1, if_pos b2, c0.1, c1.1, c2.1]
    have g1 : decide (((x + 1 : Nat) : Int) < (W : Int)) = decide (x + 1 < W) := by congr 1; apply propext; omega
    have g2 : decide (((y + 1 : Nat) : Int) < (H : Int)) = decide (y + 1 < H) := by congr 1; apply propext; omega
    have g3 : (H : Int) ≠ 0 := by omega
    rw [g1, g2]
    have e10 : w64 ((i : Int) + 1) = ((i + 1 : Nat) : Int) := by rw [w64_id (by omega) (by omega)]; rfl
    simp only [if_pos g3, e10]
    unfold rightB upB
    rw [hyd, hxd, hx2d, hy2d]
    cases (decide (x + 1 < W) || round) <;> cases (decide (y + 1 < H) || round)
    · simp [sumb]
    · cases hN : ((tl set p i).N == (tl set p (y2 * W + x)).S) <;> simp [sumb, hN, bne]
    · cases hE : ((tl set p i).E == (tl set p (y * W + x2)).W) <;> simp [sumb, hE, bne]
    · cases hE : ((tl set p i).E == (tl set p (y * W + x2)).W) <;> cases hN : ((tl set p i).N == (tl set p (y2 * W + x)).S) <;> simp [sumb, hE, hN, bne]) (fun k => by
    show tile_joins.l0 (k + 1) ((H * W : Nat) : Int) set p round = _
    rw [tile_joins.l0, if_neg (by rw [f.len]; simp)]) k (by omega)
  have h0 : tile_joins.l0 k 0 set p round = some (if ((List.range (H * W)).all fun i => rightB set p W H round i && upB set p W H round i) = true then .inr () else .inl false) := this
  rw [h0]
  cases ((List.range (H * W)).all fun i => rightB set p W H round i && upB set p W H round i) <;> rfl
end Gp
set_option linter.unusedVariables false
set_option linter.unusedSimpArgs false
namespace Gp
open Gw Gq
/-! ### the pictures are patterns of the tiles -/
theorem PForm.of {set : List Tile} {p : Pattern} {W H : Nat} (f : PForm set p W H) (hv : validT set = true) : ofB set p = true := by
  unfold ofB formB
  have h1 := f.dW; have h2 := f.dH; have h3 := f.wh
  have e : p.Width * p.Height = ((H * W : Nat) : Int) := by rw [f.w, f.h, Int.natCast_mul, Int.mul_comm]
  rw [hv, e, f.w, f.h, f.len]
  simp only [Bool.true_and, Bool.and_eq_true, decide_eq_true_eq, List.all_eq_true]
  refine ⟨⟨by omega, by omega, by omega, by omega, by omega, trivial⟩, fun a ha => ?_⟩
  obtain ⟨j, hj, he⟩ := List.mem_iff_getElem.1 ha
  have := f.cel j (by rw [← f.len]; exact hj)
  rw [show p.Cells.getD j 0 = p.Cells[j] from by simp [List.getElem?_eq_getElem hj], he] at this
  unfold inSet; exact decide_eq_true this
end Gp
set_option linter.unusedVariables false
set_option linter.unusedSimpArgs false
namespace Gq
end Gq
namespace Gp
open Gw Gq
/-! ### the patterns of the statements' own reference -/
end Gp
set_option linter.unusedVariables false
set_option linter.unusedSimpArgs false
namespace Gp
open Gw Gq
end Gp
set_option linter.unusedVariables false
set_option linter.unusedSimpArgs false
namespace Gp
open Gw Gq
/-! ### a torus, repeated -/
theorem repeats_eq {set : List Tile} {p : Pattern} {W H : Nat} (f : PForm set p W H) (hv : validT set = true) (hl : set.length ≤ 9223372036854775807) {k : Nat} (hk : 40001 ≤ k) : tile_Repeats k set p = some ((List.range (H * W)).all fun i => rightB set p W H true i && upB set p W H true i) := by
  unfold tile_Repeats
  rw [of_eq set p hk hl, f.of hv, Option.bind_some, if_pos rfl, joins_eq f true hk]; rfl
end Gp
set_option linter.unusedVariables false
set_option linter.unusedSimpArgs false
namespace Gp
open Gw Gq
/-! ### the first layer's reference -/
def inB (set : List Tile) (p : Pattern) : Bool := formB p && p.Cells.all (inSet set.length)
theorem inB_iff {set : List Tile} {p : Pattern} (h : inB set p = true) : ∃ W H, PForm set p W H := by
  unfold inB at h
  simp only [Bool.and_eq_true, List.all_eq_true] at h
  obtain ⟨h2, h3⟩ := h
  refine ⟨p.Width.toNat, p.Height.toNat, ?_⟩
  unfold formB at h2
  simp only [decide_eq_true_eq] at h2
  obtain ⟨a1, a2, a3, a4, a5, a6⟩ := h2
  have e : ((p.Height.toNat * p.Width.toNat : Nat) : Int) = p.Width * p.Height := by rw [Int.natCast_mul, Int.toNat_of_nonneg (by omega), Int.toNat_of_nonneg (by omega), Int.mul_comm]
  refine ⟨by omega, by omega, by omega, by omega, by omega, by omega, fun j hj => ?_⟩
  have hj2 : j < p.Cells.length := by omega
  have := h3 (p.Cells.getD j 0) (by rw [show p.Cells.getD j 0 = p.Cells[j] from by simp [List.getElem?_eq_getElem hj2]]; exact List.getElem_mem _)
  simpa [inSet] using this
theorem PForm.inB {set : List Tile} {p : Pattern} {W H : Nat} (f : PForm set p W H) : formB p = true ∧ p.Cells.all (inSet set.length) = true := by
  have h1 := f.dW; have h2 := f.dH; have h3 := f.wh
  have e : p.Width * p.Height = ((H * W : Nat) : Int) := by rw [f.w, f.h, Int.natCast_mul, Int.mul_comm]
  constructor
  · unfold formB; rw [e, f.w, f.h, f.len]; exact decide_eq_true ⟨by omega, by omega, by omega, by omega, by omega, rfl⟩
  · rw [List.all_eq_true]
    intro a ha
    obtain ⟨j, hj, he⟩ := List.mem_iff_getElem.1 ha
    have := f.cel j (by rw [← f.len]; exact hj)
    rw [show p.Cells.getD j 0 = p.Cells[j] from by simp [List.getElem?_eq_getElem hj], he] at this
    unfold inSet; exact decide_eq_true this
theorem round_iff {set : List Tile} {p : Pattern} {W H : Nat} (f : PForm set p W H) : ((List.range (H * W)).all fun i => rightB set p W H true i && upB set p W H true i) =
    (((List.range (H * W)).all fun i => rightB set p W H false i && upB set p W H false i) && (List.range H).all (fun y => (tl set p (y * W + (W - 1))).E == (tl set p (y * W + 0)).W) && (List.range W).all (fun x => (tl set p ((H - 1) * W + x)).N == (tl set p (0 * W + x)).S)) := by
  have hdW := f.dW
  have hdH := f.dH
  have q1 : ∀ y x, x < W → (y * W + x) % W = x := fun y x hx => by rw [Nat.mul_comm, Nat.mul_add_mod, Nat.mod_eq_of_lt hx]
  have q2 : ∀ y x, x < W → (y * W + x) / W = y := fun y x hx => by rw [Nat.mul_comm, Nat.mul_add_div (by omega), Nat.div_eq_of_lt hx]; omega
  rw [Bool.eq_iff_iff, Bool.and_eq_true, Bool.and_eq_true]
  simp only [List.all_eq_true, List.mem_range, Bool.and_eq_true]
  constructor
  · intro h
    refine ⟨⟨fun i hi => ?_, fun y hy => ?_⟩, fun x hx => ?_⟩
    · have := h i hi
      unfold rightB upB at this ⊢
      simp only [Bool.or_true, Bool.not_true, Bool.false_or] at this
      exact ⟨by rw [this.1, Bool.or_true], by rw [this.2, Bool.or_true]⟩
    · have := (h _ (place_lt (show W - 1 < W by omega) hy)).1
      unfold rightB at this
      rw [q1 y _ (by omega), q2 y _ (by omega), show W - 1 + 1 = W by omega, Nat.mod_self] at this
      simpa using this
    · have := (h _ (place_lt hx (show H - 1 < H by omega))).2
      unfold upB at this
      rw [q1 _ x hx, q2 _ x hx, show H - 1 + 1 = H by omega, Nat.mod_self] at this
      simpa using this
  · rintro ⟨⟨h1, h2⟩, h3⟩ i hi
    have hx : i % W < W := Nat.mod_lt _ (by omega)
    have hy : i / W < H := Nat.div_lt_of_lt_mul (by rw [Nat.mul_comm]; exact hi)
    have ei : i / W * W + i % W = i := by rw [Nat.mul_comm, Nat.div_add_mod]
    have hh := h1 i hi
    unfold rightB upB at hh ⊢
    simp only [Bool.or_true, Bool.not_true, Bool.false_or]
    constructor
    · by_cases hc : i % W + 1 < W
      · simpa [hc] using hh.1
      · have e1 : i % W + 1 = W := by omega
        have := h2 _ hy
        rw [e1, Nat.mod_self]
        rw [show i / W * W + (W - 1) = i by omega] at this
        exact this
    · by_cases hc : i / W + 1 < H
      · simpa [hc] using hh.2
      · have e1 : i / W + 1 = H := by omega
        have := h3 _ hx
        rw [e1, Nat.mod_self]
        rw [show H - 1 = i / W by omega, ei] at this
        exact this
end Gp
set_option linter.unusedVariables false
set_option linter.unusedSimpArgs false
namespace Gp
open Gw Gq
/-! ### grids: lists of rows -/
def grid (w h : Nat) (g : Nat → Nat → Int) : List Int := (List.range h).flatMap fun y => (List.range w).map (g y)
theorem grid_len (w h : Nat) (g : Nat → Nat → Int) : (grid w h g).length = h * w := flat_len (f := fun y => (List.range w).map (g y)) (b := w) (fun y => by simp) h
theorem grid_get (w h : Nat) (g : Nat → Nat → Int) {x y : Nat} (hx : x < w) (hy : y < h) : (grid w h g).getD (y * w + x) 0 = g y x := by
  have := flat_get (f := fun y => (List.range w).map (g y)) (n := h) (q := y) (j := x) (t := g y x) hy (by simp [hx])
  have e : ((List.range y).flatMap fun y => (List.range w).map (g y)).length = y * w := grid_len w y g
  rw [e] at this
  unfold grid
  rw [List.getD_eq_getElem?_getD, this]; rfl
/-! ### stores into a list -/
def sets (l : List Int) (q : List (Nat × Int)) : List Int := q.foldl (fun l p => l.set p.1 p.2) l
/-! ### patterns that have the form of one -/
structure GForm (p : Pattern) (W H : Nat) : Prop where
  w : p.Width = W
  h : p.Height = H
  dW : 1 ≤ W ∧ W ≤ 40000
  dH : 1 ≤ H ∧ H ≤ 40000
  wh : H * W ≤ 40000
  len : p.Cells.length = H * W
theorem GForm.form {p : Pattern} {W H : Nat} (f : GForm p W H) : formB p = true := by
  have h1 := f.dW; have h2 := f.dH; have h3 := f.wh
  have e : p.Width * p.Height = ((H * W : Nat) : Int) := by rw [f.w, f.h, Int.natCast_mul, Int.mul_comm]
  unfold formB; rw [e, f.w, f.h, f.len]; exact decide_eq_true ⟨by omega, by omega, by omega, by omega, by omega, rfl⟩
theorem PForm.g {set : List Tile} {p : Pattern} {W H : Nat} (f : PForm set p W H) : GForm p W H := ⟨f.w, f.h, f.dW, f.dH, f.wh, f.len⟩
def cellG (p : Pattern) (W y x : Nat) : Int := p.Cells.getD (y * W + x) 0
theorem GForm.at {p : Pattern} {W H : Nat} (f : GForm p W H) {x y : Nat} (hx : x < W) (hy : y < H) : w64 (w64 ((y : Int) * (W : Int)) + (x : Int)) = ((y * W + x : Nat) : Int) ∧ (0 ≤ ((y * W + x : Nat) : Int) ∧ ((y * W + x : Nat) : Int) < (p.Cells.length : Int)) := by
  have hwh := f.wh
  have hp := place_lt hx hy
  refine ⟨?_, by omega, by rw [f.len]; omega⟩
  rw [← Int.natCast_mul, w64_id (n := ((y * W : Nat) : Int)) (by omega) (by omega), w64_id (by omega) (by omega)]; rfl
/-! ### the changed patterns -/
end Gp
set_option linter.unusedVariables false
set_option linter.unusedSimpArgs false
namespace Gp
open Gw Gq
/-! ### cuts -/
/-! ### patterns, repeated -/
/-! ### what is equal -/
end Gp
set_option linter.unusedVariables false
set_option linter.unusedSimpArgs false
namespace Gp
open Gw Gq
/-! ### changed sets -/
def upT (t : Tile) : Tile := ⟨t.S, t.E, t.N, t.W⟩
structure Chg (f : Tile → Tile) : Prop where
  inj : ∀ a b, f a = f b → a = b
  col : ∀ t, colB (f t) = colB t
theorem chg_up : Chg upT := ⟨fun a b h => by cases a; cases b; simp only [upT, Tile.mk.injEq] at h; obtain ⟨rfl, rfl, rfl, rfl⟩ := h; rfl, fun t => by unfold colB upT; simp only; cases inCol t.N <;> cases inCol t.E <;> cases inCol t.S <;> cases inCol t.W <;> rfl⟩
theorem getD_map (f : Tile → Tile) {s : List Tile} {i : Nat} (h : i < s.length) : (s.map f).getD i z_Tile = f (s.getD i z_Tile) := by simp [List.getElem?_eq_getElem h]
theorem Chg.valid {f : Tile → Tile} (c : Chg f) {s : List Tile} (hv : validT s = true) : validT (s.map f) = true := by
  unfold validT at hv ⊢
  simp only [Bool.and_eq_true, decide_eq_true_eq, List.all_eq_true, List.mem_range, List.length_map] at hv ⊢
  refine ⟨hv.1, fun i hi => ?_⟩
  have := hv.2 i hi
  unfold newB at this ⊢
  rw [getD_map f hi, ← List.map_take, c.col]
  simp only [Bool.and_eq_true, Bool.not_eq_true', decide_eq_false_iff_not] at this ⊢
  refine ⟨fun hm => this.1 ?_, this.2⟩
  obtain ⟨a, ha, he⟩ := List.mem_map.1 hm
  rw [← c.inj _ _ he]; exact ha
/-! ### how the tiles of a grid meet -/
def JP (W H : Nat) (round : Bool) (T : Nat → Nat → Tile) : Prop :=
  (∀ y x, y < H → x < W → (x + 1 < W ∨ round = true) → (T y x).E = (T y ((x + 1) % W)).W) ∧ (∀ y x, y < H → x < W → (y + 1 < H ∨ round = true) → (T y x).N = (T ((y + 1) % H) x).S)
theorem JP.congr {W H : Nat} {round : Bool} {T T' : Nat → Nat → Tile} (he : ∀ y x, y < H → x < W → T y x = T' y x) (h : JP W H round T) : JP W H round T' := by
  refine ⟨fun y x hy hx hr => ?_, fun y x hy hx hr => ?_⟩
  · rw [← he y x hy hx, ← he y _ hy (Nat.mod_lt _ (by omega))]; exact h.1 y x hy hx hr
  · rw [← he y x hy hx, ← he _ x (Nat.mod_lt _ (by omega)) hx]; exact h.2 y x hy hx hr
def GP (W H : Nat) (c : Nat → Nat → Int) : Pattern := ⟨W, H, grid W H c⟩
def TT (s : List Tile) (c : Nat → Nat → Int) (y x : Nat) : Tile := s.getD (c y x).toNat z_Tile
structure GOK (s : List Tile) (W H : Nat) (c : Nat → Nat → Int) (whole : Bool) : Prop where
  valid : validT s = true
  dW : 1 ≤ W ∧ W ≤ 40000
  dH : 1 ≤ H ∧ H ≤ 40000
  wh : H * W ≤ 40000
  cel : ∀ y x, y < H → x < W → 0 ≤ c y x ∧ c y x < (s.length : Int)
  fits : JP W H false (TT s c)
  round : whole = true ↔ JP W H true (TT s c)
theorem valid_len {s : List Tile} (hv : validT s = true) : s.length ≤ 1000 := by unfold validT at hv; simp only [Bool.and_eq_true, decide_eq_true_eq] at hv; exact hv.1
theorem GOK.congr {s : List Tile} {W H : Nat} {c c' : Nat → Nat → Int} {whole : Bool} (g : GOK s W H c whole) (he : ∀ y x, y < H → x < W → c y x = c' y x) : GOK s W H c' whole := by
  have ht : ∀ y x, y < H → x < W → TT s c y x = TT s c' y x := fun y x hy hx => by unfold TT; rw [he y x hy hx]
  exact ⟨g.valid, g.dW, g.dH, g.wh, fun y x hy hx => by rw [← he y x hy hx]; exact g.cel y x hy hx, g.fits.congr ht, g.round.trans ⟨fun h => h.congr ht, fun h => h.congr (fun y x hy hx => (ht y x hy hx).symm)⟩⟩
theorem TT_map {f : Tile → Tile} {s : List Tile} {c : Nat → Nat → Int} {y x : Nat} (h : 0 ≤ c y x ∧ c y x < (s.length : Int)) : TT (s.map f) c y x = f (TT s c y x) := by
  unfold TT
  rw [getD_map f (by omega)]
/-! mirrored -/
theorem mod_back {W x : Nat} (hx : x < W) : (W - 1 - (x + 1) % W + 1) % W = W - 1 - x ∧ W - 1 - (x + 1) % W < W ∧ (x + 1 < W → W - 1 - (x + 1) % W + 1 < W) := by
  by_cases h : x + 1 < W
  · rw [Nat.mod_eq_of_lt h, show W - 1 - (x + 1) + 1 = W - 1 - x by omega, Nat.mod_eq_of_lt (by omega)]; omega
  · have e : x + 1 = W := by omega
    rw [e, Nat.mod_self, show W - 1 - 0 + 1 = W by omega, Nat.mod_self]; omega
theorem JP.up {W H : Nat} {round : Bool} {T : Nat → Nat → Tile} (h : JP W H round T) : JP W H round (fun y x => upT (T (H - 1 - y) x)) := by
  refine ⟨fun y x hy hx hr => ?_, fun y x hy hx hr => ?_⟩
  · exact h.1 (H - 1 - y) x (by omega) hx hr
  · obtain ⟨e, hlt, hi⟩ := mod_back hy
    have := h.2 (H - 1 - (y + 1) % H) x hlt hx (hr.imp hi id)
    rw [e] at this
    exact this.symm
theorem GOK.up {s : List Tile} {W H : Nat} {c : Nat → Nat → Int} {whole : Bool} (g : GOK s W H c whole) : GOK (s.map upT) W H (fun y x => c (H - 1 - y) x) whole := by
  have hdH := g.dH
  have ht : ∀ y x, y < H → x < W → upT (TT s c (H - 1 - y) x) = TT (s.map upT) (fun y x => c (H - 1 - y) x) y x := fun y x hy hx => by
    exact (TT_map (f := upT) (c := fun y x => c (H - 1 - y) x) (y := y) (x := x) (g.cel (H - 1 - y) x (by omega) hx)).symm
  refine ⟨chg_up.valid g.valid, g.dW, g.dH, g.wh, fun y x hy hx => by rw [List.length_map]; exact g.cel _ x (by omega) hx, g.fits.up.congr ht, ?_⟩
  rw [g.round]
  constructor
  · exact fun h => h.up.congr ht
  · intro h
    have := (h.congr (fun y x hy hx => (ht y x hy hx).symm)).up
    exact this.congr fun y x hy hx => by
      rw [show H - 1 - (H - 1 - y) = y by omega]; rfl
theorem GP.g {W H : Nat} {c : Nat → Nat → Int} (dW : 1 ≤ W ∧ W ≤ 40000) (dH : 1 ≤ H ∧ H ≤ 40000) (wh : H * W ≤ 40000) : GForm (GP W H c) W H := ⟨rfl, rfl, dW, dH, wh, grid_len W H c⟩
theorem GP.cell {W H : Nat} (c : Nat → Nat → Int) {y x : Nat} (hy : y < H) (hx : x < W) : cellG (GP W H c) W y x = c y x := grid_get W H c hx hy
end Gp
set_option linter.unusedVariables false
set_option linter.unusedSimpArgs false
namespace Gp
open Gw Gq
end Gp
set_option linter.unusedVariables false
set_option linter.unusedSimpArgs false
namespace Gq
theorem loop_list {α σ τ : Type} {F : Nat → Int → σ → Option τ} (xs : List α) (step : σ → α → σ) (K : Nat) (P : Nat → σ → Prop) (fin : σ → τ)
    (hs : ∀ k i s (h : i < xs.length), K ≤ k → P i s → F (k + 1) (i : Int) s = F k ((i + 1 : Nat) : Int) (step s xs[i]) ∧ P (i + 1) (step s xs[i])) (he : ∀ k s, P xs.length s → F (k + 1) (xs.length : Int) s = some (fin s)) :
    ∀ (s0 : σ), P 0 s0 → ∀ k, xs.length + K < k → F k 0 s0 = some (fin (xs.foldl step s0)) := by
  have key : ∀ d i s k, i + d = xs.length → P i s → d + K < k → F k (i : Int) s = some (fin ((xs.drop i).foldl step s)) := by
    intro d
    induction d with
    | zero =>
      intro i s k hi hp hk
      obtain ⟨k, rfl⟩ : ∃ m, k = m + 1 := ⟨k - 1, by omega⟩
      have : i = xs.length := by omega
      subst this
      rw [he k s hp, List.drop_length]; rfl
    | succ d ih =>
      intro i s k hi hp hk
      obtain ⟨k, rfl⟩ : ∃ m, k = m + 1 := ⟨k - 1, by omega⟩
      have hlt : i < xs.length := by omega
      obtain ⟨h1, h2⟩ := hs k i s hlt (by omega) hp
      rw [h1, ih (i + 1) _ k (by omega) h2 (by omega), List.drop_eq_getElem_cons hlt]; rfl
  intro s0 h0 k hk
  have := key xs.length 0 s0 k (by omega) h0 hk
  simpa using this
end Gq
namespace Gp
open Gw Gq
/-! ### words, rows -/
def tat (set : List Tile) (i : Nat) : Tile := set.getD i z_Tile
def cz (c : List Nat) : List Int := c.map fun (i : Nat) => (i : Int)
def wordOf (l : List Int) : A8_Int := ⟨l.getD 0 0, l.getD 1 0, l.getD 2 0, l.getD 3 0, l.getD 4 0, l.getD 5 0, l.getD 6 0, l.getD 7 0⟩
def mkR (set : List Tile) (c : List Nat) : Row := ⟨cz c, wordOf (c.map fun i => (tat set i).S), wordOf (c.map fun i => (tat set i).N), (tat set (c.headD 0)).W, (tat set (c.getLastD 0)).E⟩
def follows (set : List Tile) (c : List Nat) (i : Nat) : Bool := match c.getLast? with
  | none => true
  | some j => (tat set j).E == (tat set i).W
def rowsL (set : List Tile) : Nat → List Nat → List (List Nat)
  | 0, c => [c]
  | n + 1, c => ((List.range set.length).filter (follows set c)).flatMap fun i => rowsL set n (c ++ [i])
theorem wordOf_get (l : List Int) (i : Nat) (hi : i < 8) : (wordOf l).get i = l.getD i 0 := by
  have : i = 0 ∨ i = 1 ∨ i = 2 ∨ i = 3 ∨ i = 4 ∨ i = 5 ∨ i = 6 ∨ i = 7 := by omega
  rcases this with rfl | rfl | rfl | rfl | rfl | rfl | rfl | rfl <;> rfl
theorem wordOf_inj {a b : List Int} (ha : a.length ≤ 8) (h : a.length = b.length) : wordOf a = wordOf b ↔ a = b := by
  constructor
  · intro e
    apply List.ext_getElem? 
    intro i
    by_cases hi : i < a.length
    · have h1 := wordOf_get a i (by omega)
      have h2 := wordOf_get b i (by omega)
      rw [e, h2] at h1
      rw [List.getElem?_eq_getElem hi, List.getElem?_eq_getElem (by omega)]
      simp only [List.getD, List.getElem?_eq_getElem hi, List.getElem?_eq_getElem (show i < b.length by omega), Option.getD_some] at h1
      rw [h1]
    · rw [List.getElem?_eq_none (by omega), List.getElem?_eq_none (by omega)]
  · intro e; rw [e]
theorem wordOf_set (l : List Int) (v : Int) (hl : l.length < 8) : (wordOf l).set l.length v = wordOf (l ++ [v]) := by
  have : l.length = 0 ∨ l.length = 1 ∨ l.length = 2 ∨ l.length = 3 ∨ l.length = 4 ∨ l.length = 5 ∨ l.length = 6 ∨ l.length = 7 := by omega
  match l, this with
  | [], _ => rfl
  | [a], _ => rfl
  | [a, b], _ => rfl
  | [a, b, c], _ => rfl
  | [a, b, c, d], _ => rfl
  | [a, b, c, d, e], _ => rfl
  | [a, b, c, d, e, f], _ => rfl
  | [a, b, c, d, e, f, g], _ => rfl
  | _ :: _ :: _ :: _ :: _ :: _ :: _ :: _ :: l, h => simp at h
theorem rowOf_l0 (set : List Tile) (c : List Nat) (hc : ∀ i ∈ c, i < set.length) (h8 : c.length ≤ 8) {k : Nat} (hk : c.length < k) :
    rows_rowOf.l0 k (A8_Int.mk 0 0 0 0 0 0 0 0) (A8_Int.mk 0 0 0 0 0 0 0 0) 0 set (cz c) = some (wordOf (c.map fun i => (tat set i).S), wordOf (c.map fun i => (tat set i).N)) := by
  have key : ∀ d i k, i + d = c.length → d < k → rows_rowOf.l0 k (wordOf ((c.take i).map fun i => (tat set i).S)) (wordOf ((c.take i).map fun i => (tat set i).N)) (i : Int) set (cz c) = some (wordOf (c.map fun i => (tat set i).S), wordOf (c.map fun i => (tat set i).N)) := by
    intro d
    induction d with
    | zero =>
      intro i k hi hk
      obtain ⟨k, rfl⟩ : ∃ m, k = m + 1 := ⟨k - 1, by omega⟩
      have : i = c.length := by omega
      subst this
      rw [rows_rowOf.l0, if_neg (by simp [cz]), List.take_length]
    | succ d ih =>
      intro i k hi hk
      obtain ⟨k, rfl⟩ : ∃ m, k = m + 1 := ⟨k - 1, by omega⟩
      have hlt : i < c.length := by omega
      have hci := hc c[i] (List.getElem_mem _)
      have hz : rdD (cz c) (i : Int) 0 = ((c[i] : Nat) : Int) := by rw [rdD_get (by simpa [cz] using hlt)]; simp [cz]
      rw [rows_rowOf.l0, if_pos (by simp [cz]; omega), if_pos (by simp [cz]; omega), hz, if_pos (by omega), if_pos (by omega), w64_id (by omega) (by omega), rdD_nat]
      have e1 := wordOf_set ((c.take i).map fun i => (tat set i).S) (tat set c[i]).S (by simp; omega)
      have e2 := wordOf_set ((c.take i).map fun i => (tat set i).N) (tat set c[i]).N (by simp; omega)
      have hlen : ((c.take i).map fun i => (tat set i).S).length = i := by simp; omega
      have hlen2 : ((c.take i).map fun i => (tat set i).N).length = i := by simp; omega
      rw [hlen] at e1; rw [hlen2] at e2
      have ht : c.take (i + 1) = c.take i ++ [c[i]] := by rw [List.take_add_one, List.getElem?_eq_getElem hlt]; rfl
      show rows_rowOf.l0 k (A8_Int.set _ i (tat set c[i]).S) (A8_Int.set _ i (tat set c[i]).N) _ set (cz c) = _
      rw [e1, e2]
      have := ih (i + 1) k (by omega) (by omega)
      rw [ht, List.map_append, List.map_append] at this
      exact this
  exact key c.length 0 k (by omega) hk
theorem rowOf_eq (set : List Tile) (c : List Nat) (hc : ∀ i ∈ c, i < set.length) (h8 : c.length ≤ 8) (h1 : 1 ≤ c.length) {k : Nat} (hk : c.length < k) : rows_rowOf k set (cz c) = some (mkR set c) := by
  have hl : (cz c).length = c.length := by simp [cz]
  have h0 : rdD (cz c) (0 : Int) 0 = ((c.headD 0 : Nat) : Int) := by
    cases c with
    | nil => simp at h1
    | cons a r => rfl
  have hn : c ≠ [] := by intro e; rw [e] at h1; simp at h1
  have hh : c.headD 0 < set.length := by
    cases c with
    | nil => simp at h1
    | cons a r => exact hc a (by simp)
  have hlast : c.getLastD 0 < set.length := by
    rw [List.getLastD_eq_getLast?, List.getLast?_eq_some_getLast hn]; exact hc _ (List.getLast_mem hn)
  have hw : w64 (((cz c).length : Int) - 1) = ((c.length - 1 : Nat) : Int) := by rw [hl, w64_id (by omega) (by omega)]; omega
  have hz : rdD (cz c) (((c.length - 1 : Nat) : Int)) 0 = ((c.getLastD 0 : Nat) : Int) := by
    rw [rdD_get (by rw [hl]; omega)]
    rw [List.getLastD_eq_getLast?, List.getLast?_eq_some_getLast hn, Option.getD_some, List.getLast_eq_getElem]
    simp [cz]
  unfold rows_rowOf
  rw [rowOf_l0 set c hc h8 hk, hw, hz, h0, if_pos (by simp [cz]; omega), Option.bind_some, if_pos (by rw [hl]; omega), if_pos (by omega), if_pos (by rw [hl]; omega), if_pos (by omega), rdD_nat, rdD_nat]
  rfl
theorem all1 (set : List Tile) (w : Nat) (h1 : 1 ≤ w) (h8 : w ≤ 8) (hl : set.length ≤ 1000000) : ∀ (n x : Nat) (c : List Nat) (out : List Row) (cells : List Int) (k : Nat), x + n = w → c.length = x → (∀ i ∈ c, i < set.length) → cells.length = w → cells.take x = cz c →
    out.length + (rowsL set n c).length ≤ 100000000000 → n + set.length + 10 < k → ∃ cells', rows_All_1 k (x : Int) (w : Int) out set cells = some (out ++ (rowsL set n c).map (mkR set), cells') ∧ cells'.length = w ∧ cells'.take x = cz c := by
  intro n
  induction n with
  | zero =>
    intro x c out cells k hx hc hcs hcl hct hb hk
    obtain ⟨k, rfl⟩ : ∃ m, k = m + 1 := ⟨k - 1, by omega⟩
    have hxw : x = w := by omega
    subst hxw
    have he : cells = cz c := by rw [← hct, ← hcl, List.take_length]
    refine ⟨cells, ?_, hcl, hct⟩
    rw [rows_All_1, if_pos (by simp), he, rowOf_eq set c hcs (by omega) (by omega) (by omega), Option.bind_some, if_pos (by simp [rowsL] at hb; omega)]
    rfl
  | succ n ih =>
    intro x c out cells k hx hc hcs hcl hct hb hk
    obtain ⟨k, rfl⟩ : ∃ m, k = m + 1 := ⟨k - 1, by omega⟩
    have key : ∀ d i k' (out : List Row) (cells : List Int), i + d = set.length → d < k' → cells.length = w → cells.take x = cz c → out.length + (((List.range' i d).filter (follows set c)).flatMap fun i => rowsL set n (c ++ [i])).length ≤ 100000000000 →
        ∃ cells', rows_All_1.l0 k' out cells (i : Int) (x : Int) (w : Int) set (rows_All_1 k) = some (out ++ (((List.range' i d).filter (follows set c)).flatMap fun i => rowsL set n (c ++ [i])).map (mkR set), cells') ∧ cells'.length = w ∧ cells'.take x = cz c := by
      intro d
      induction d with
      | zero =>
        intro i k' out cells hi hk' hcl hct hb
        obtain ⟨k', rfl⟩ : ∃ m, k' = m + 1 := ⟨k' - 1, by omega⟩
        have : i = set.length := by omega
        subst this
        refine ⟨cells, ?_, hcl, hct⟩
        rw [rows_All_1.l0, if_neg (by simp)]; simp
      | succ d ihd =>
        intro i k' out cells hi hk' hcl hct hb
        obtain ⟨k', rfl⟩ : ∃ m, k' = m + 1 := ⟨k' - 1, by omega⟩
        have hlt : i < set.length := by omega
        have hcond : (if ((x : Int) == 0) = true then (some true) else (if 0 ≤ w64 ((x : Int) - 1) ∧ w64 ((x : Int) - 1) < (cells.length : Int) then (if 0 ≤ (rdD cells (w64 ((x : Int) - 1)) 0) ∧ (rdD cells (w64 ((x : Int) - 1)) 0) < (set.length : Int) then (some (((rdD set (rdD cells (w64 ((x : Int) - 1)) 0) z_Tile).E) == ((rdD set (i : Int) z_Tile).W))) else none) else none)) = some (follows set c i) := by
          by_cases h0 : x = 0
          · subst h0
            have : c = [] := List.eq_nil_of_length_eq_zero hc
            subst this
            rfl
          · have hn : c ≠ [] := by intro e; rw [e] at hc; simp at hc; omega
            have hw : w64 ((x : Int) - 1) = ((x - 1 : Nat) : Int) := by rw [w64_id (by omega) (by omega)]; omega
            have hz : rdD cells (((x - 1 : Nat) : Int)) 0 = ((c.getLast hn : Nat) : Int) := by
              rw [rdD_get (by omega)]
              have : cells[x - 1]'(by omega) = (cells.take x)[x - 1]'(by simp; omega) := by simp
              rw [this]
              simp only [hct, List.getLast_eq_getElem]
              simp [cz, hc]
            have hm := hcs _ (List.getLast_mem hn)
            rw [if_neg (by simp; omega), hw, if_pos (by omega), hz, if_pos (by omega), rdD_nat, rdD_nat]
            unfold follows
            rw [List.getLast?_eq_some_getLast hn]; rfl
        have hwi : w64 ((i : Int) + 1) = ((i + 1 : Nat) : Int) := by rw [w64_id (by omega) (by omega)]; rfl
        rw [rows_All_1.l0, if_pos (by simpa using hlt), if_pos (by omega), hcond, Option.bind_some, hwi]
        rw [List.range'_succ, List.filter_cons] at hb ⊢
        cases hf : follows set c i
        · rw [hf] at hb
          simp only [Bool.false_eq_true, if_false] at hb ⊢
          rw [Option.bind_some]
          exact ihd (i + 1) k' out cells (by omega) (by omega) hcl hct hb
        · rw [hf] at hb
          simp only [if_true, List.flatMap_cons, List.length_append] at hb ⊢
          have hset : (cells.set x (i : Int)).take (x + 1) = cz (c ++ [i]) := by
            rw [List.take_add_one, List.take_set_of_le (Nat.le_refl _), hct, List.getElem?_set_self (by omega)]
            simp [cz]
          have hw1 : w64 ((x : Int) + 1) = ((x + 1 : Nat) : Int) := by rw [w64_id (by omega) (by omega)]; rfl
          obtain ⟨cells1, e1, l1, t1⟩ := ih (x + 1) (c ++ [i]) out (cells.set x (i : Int)) k (by omega) (by simp [hc]) (fun j hj => by
            rcases List.mem_append.1 hj with hj | hj
            · exact hcs j hj
            · simp at hj; omega) (by simp [hcl]) hset (by omega) (by omega)
          have t1' : cells1.take x = cz c := by
            have : cells1.take x = (cells1.take (x + 1)).take x := by rw [List.take_take, Nat.min_eq_left (by omega)]
            rw [this, t1]
            simp [cz, ← hc]
          obtain ⟨cells2, e2, l2, t2⟩ := ihd (i + 1) k' (out ++ (rowsL set n (c ++ [i])).map (mkR set)) cells1 (by omega) (by omega) l1 t1' (by simp only [List.length_append, List.length_map]; omega)
          refine ⟨cells2, ?_, l2, t2⟩
          rw [if_pos (by omega), hw1]
          simp only [Int.toNat_natCast]
          rw [e1, Option.bind_some, Option.bind_some]
          show rows_All_1.l0 k' _ cells1 ((i + 1 : Nat) : Int) _ _ _ _ = _
          rw [e2, List.map_append, List.append_assoc]
    rw [rowsL] at hb
    rw [List.range_eq_range'] at hb
    obtain ⟨cells', e, l, t⟩ := key set.length 0 k out cells (by omega) (by omega) hcl hct hb
    refine ⟨cells', ?_, l, t⟩
    rw [rows_All_1, if_neg (by simp; omega)]
    have e' : rows_All_1.l0 k out cells 0 (x : Int) (w : Int) set (rows_All_1 k) = _ := e
    rw [e', Option.bind_some, rowsL, List.range_eq_range']
theorem rowsL_len (set : List Tile) : ∀ (n : Nat) (c : List Nat), (rowsL set n c).length ≤ set.length ^ n
  | 0, c => by simp [rowsL]
  | n + 1, c => by
    rw [rowsL, List.length_flatMap]
    have : ∀ l : List Nat, (l.map fun i => (rowsL set n (c ++ [i])).length).sum ≤ l.length * set.length ^ n := by
      intro l
      induction l with
      | nil => simp
      | cons a r ih =>
        simp only [List.map_cons, List.sum_cons, List.length_cons]
        have := rowsL_len set n (c ++ [a])
        rw [Nat.add_mul]; omega
    refine Nat.le_trans (this _) ?_
    have h2 : ((List.range set.length).filter (follows set c)).length ≤ set.length := by
      have := List.length_filter_le (follows set c) (List.range set.length); simpa using this
    rw [Nat.pow_succ, Nat.mul_comm (set.length ^ n)]
    exact Nat.mul_le_mul_right _ h2
def allR (set : List Tile) (w : Nat) : List Row := (rowsL set w []).map (mkR set)
theorem all_eq (set : List Tile) (w : Nat) (h1 : 1 ≤ w) (h8 : w ≤ 8) (hl : set.length ≤ 1000000) (hf : set.length ^ w ≤ 100000000000) {k : Nat} (hk : set.length + 20 < k) : rows_All k set (w : Int) = some (allR set w) := by
  have hb := rowsL_len set w []
  obtain ⟨cells, e, _, _⟩ := all1 set w h1 h8 hl w 0 [] [] (List.replicate w 0) k (by omega) rfl (fun i h => by cases h) (by simp) (by simp [cz]) (by simp; omega) (by omega)
  unfold rows_All
  have e' : rows_All_1 k 0 (w : Int) [] set (List.replicate w 0) = _ := e
  rw [if_pos (by omega), Int.toNat_natCast, e']; rfl
/-! few -/
def fewB (n w : Nat) : Bool := decide ((max n 1) ^ w ≤ 5000)
theorem few_eq (set : List Tile) (w : Nat) (hw : w ≤ 1000) (hl : set.length ≤ 1000000) {k : Nat} (hk : w < k) : rows_Few k set (w : Int) = some (fewB set.length w) := by
  have hm : maxI (set.length : Int) 1 = ((max set.length 1 : Nat) : Int) := by unfold maxI; split <;> omega
  obtain ⟨m, hmd⟩ : ∃ m, max set.length 1 = m := ⟨_, rfl⟩
  have hm1 : 1 ≤ m := by omega
  have hm2 : m ≤ 1000000 := by omega
  have key : ∀ d i k, i + d = w → d < k → m ^ i ≤ 5000 → rows_Few.l0 k ((m ^ i : Nat) : Int) (i : Int) set (w : Int) = some (if m ^ w ≤ 5000 then .inr () else .inl false) := by
    intro d
    induction d with
    | zero =>
      intro i k hi hk hp
      obtain ⟨k, rfl⟩ : ∃ m, k = m + 1 := ⟨k - 1, by omega⟩
      have : i = w := by omega
      subst this
      rw [rows_Few.l0, if_neg (by simp), if_pos hp]
    | succ d ih =>
      intro i k hi hk hp
      obtain ⟨k, rfl⟩ : ∃ m, k = m + 1 := ⟨k - 1, by omega⟩
      have hpp : m ^ i * m ≤ 5000 * 1000000 := Nat.mul_le_mul hp hm2
      have e : w64 (((m ^ i : Nat) : Int) * maxI (set.length : Int) 1) = ((m ^ (i + 1) : Nat) : Int) := by
        rw [hm, hmd, ← Int.natCast_mul, Nat.pow_succ, w64_id (by omega) (by omega)]
      have hle : m ^ (i + 1) ≤ m ^ w := Nat.pow_le_pow_right hm1 (by omega)
      obtain ⟨q, hq⟩ : ∃ q, m ^ (i + 1) = q := ⟨_, rfl⟩
      rw [rows_Few.l0, if_pos (by simp; omega), e]
      have hwi : w64 ((i : Int) + 1) = ((i + 1 : Nat) : Int) := by rw [w64_id (by omega) (by omega)]; rfl
      by_cases h5 : q ≤ 5000
      · rw [if_neg (by rw [hq]; simp; omega), hwi]
        exact ih (i + 1) k (by omega) (by omega) (by rw [hq]; exact h5)
      · rw [if_pos (by rw [hq]; simp; omega), if_neg]
        intro hw5
        omega
  have := key w 0 k (by omega) hk (by simp)
  have h0 : rows_Few.l0 k 1 0 set (w : Int) = _ := this
  unfold rows_Few fewB
  rw [h0, hmd]
  by_cases h5 : m ^ w ≤ 5000
  · rw [if_pos h5]; simp [sumb, h5]
  · rw [if_neg h5]; simp [sumb, h5]
end Gp
set_option linter.unusedVariables false
set_option linter.unusedSimpArgs false
namespace Gq
open Gw
theorem mget_mput {κ ν : Type} [DecidableEq κ] (x y : κ) (z v : ν) : ∀ l : List (κ × ν), mget x z (mput y v l) = if x = y then v else mget x z l
  | [] => by simp [mput, mget]
  | p :: r => by
    simp only [mput]
    by_cases h : y = p.1
    · rw [if_pos h]
      simp only [mget]
      by_cases hx : x = y
      · rw [if_pos hx, if_pos hx]
      · rw [if_neg hx, if_neg hx, if_neg (fun e => hx (e.trans h.symm))]
    · rw [if_neg h]
      simp only [mget]
      by_cases hx : x = p.1
      · rw [if_pos hx, if_pos hx, if_neg (fun e => h (e.symm.trans hx))]
      · rw [if_neg hx, if_neg hx]; exact mget_mput x y z v r
theorem mget_marks {α κ : Type} [DecidableEq κ] (key : α → κ) (c : α → Bool) (x : κ) : ∀ (l : List α) (m : List (κ × Bool)), mget x false (l.foldl (fun m a => if c a = true then mput (key a) true m else m) m) = (mget x false m || l.any fun a => decide (key a = x) && c a)
  | [], m => by simp
  | a :: r, m => by
    rw [List.foldl_cons, mget_marks key c x r, List.any_cons]
    cases hc : c a
    · simp
    · simp only [if_true, mget_mput, Bool.and_true]
      by_cases h : x = key a
      · simp [h]
      · have : ¬ key a = x := fun e => h e.symm
        simp [h, this]
end Gq
namespace Gp
open Gw Gq
/-! ### rectangles that are filled -/
theorem word_beq (a b : A8_Int) : (a.e0 == b.e0 && (a.e1 == b.e1 && (a.e2 == b.e2 && (a.e3 == b.e3 && (a.e4 == b.e4 && (a.e5 == b.e5 && (a.e6 == b.e6 && a.e7 == b.e7))))))) = decide (a = b) := by
  rw [Bool.eq_iff_iff, decide_eq_true_eq]
  simp only [Bool.and_eq_true, beq_iff_eq]
  constructor
  · rintro ⟨h0, h1, h2, h3, h4, h5, h6, h7⟩; cases a; cases b; simp_all
  · intro h; subst h; simp
end Gp
set_option linter.unusedVariables false
set_option linter.unusedSimpArgs false
namespace Gp
open Gw Gq
def p0P : Pattern := ⟨0, 0, []⟩
/-! the whole function -/
theorem allR_len (set : List Tile) (w : Nat) : (allR set w).length ≤ set.length ^ w := by
  unfold allR; rw [List.length_map]; exact rowsL_len set w []
end Gp
set_option linter.unusedVariables false
set_option linter.unusedSimpArgs false
namespace Gp
open Gw Gq
/-! ### rows and patterns -/
theorem mem_rowsL0 (set : List Tile) : ∀ (n : Nat) (pre c : List Nat), c ∈ rowsL set n pre ↔ c.take pre.length = pre ∧ c.length = pre.length + n ∧ ∀ j, pre.length ≤ j → j < c.length → c.getD j 0 < set.length ∧ follows set (c.take j) (c.getD j 0) = true
  | 0, pre, c => by
    rw [rowsL, List.mem_singleton]
    constructor
    · intro h; subst h; exact ⟨List.take_length, rfl, fun j h1 h2 => by omega⟩
    · rintro ⟨h1, h2, _⟩
      rw [← h1, List.take_of_length_le (by omega)]
  | n + 1, pre, c => by
    rw [rowsL, List.mem_flatMap]
    constructor
    · rintro ⟨i, hi, hc⟩
      rw [List.mem_filter, List.mem_range] at hi
      obtain ⟨h1, h2, h3⟩ := (mem_rowsL0 set n (pre ++ [i]) c).1 hc
      rw [List.length_append, List.length_singleton] at h1 h2 h3
      have hp : c.take pre.length = pre := by
        have : c.take pre.length = (c.take (pre.length + 1)).take pre.length := by rw [List.take_take, Nat.min_eq_left (by omega)]
        rw [this, h1]; simp
      refine ⟨hp, by omega, fun j hj1 hj2 => ?_⟩
      by_cases e : j = pre.length
      · subst e
        have hg : c.getD pre.length 0 = i := by
          have h5 : (c.take (pre.length + 1))[pre.length]? = some i := by rw [h1]; simp
          rw [List.getElem?_take, if_pos (by omega)] at h5
          rw [List.getD_eq_getElem?_getD, h5]; rfl
        rw [hg, hp]; exact hi
      · exact h3 j (by omega) hj2
    · rintro ⟨h1, h2, h3⟩
      have hlt : pre.length < c.length := by omega
      obtain ⟨h4, h5⟩ := h3 pre.length (Nat.le_refl _) hlt
      rw [h1] at h5
      refine ⟨c.getD pre.length 0, ?_, (mem_rowsL0 set n _ c).2 ⟨?_, by simp; omega, fun j hj1 hj2 => h3 j (by simp at hj1; omega) hj2⟩⟩
      · rw [List.mem_filter, List.mem_range]; exact ⟨h4, h5⟩
      · rw [List.length_append, List.length_singleton, List.take_add_one, h1, List.getElem?_eq_getElem hlt]
        simp [List.getElem?_eq_getElem hlt]
structure RowOK (set : List Tile) (w : Nat) (c : List Nat) : Prop where
  len : c.length = w
  lt : ∀ x, x < w → c.getD x 0 < set.length
  adj : ∀ x, x + 1 < w → (tat set (c.getD x 0)).E = (tat set (c.getD (x + 1) 0)).W
theorem follows_take (set : List Tile) (c : List Nat) (j : Nat) (hj : j < c.length) (i : Nat) : follows set (c.take (j + 1)) i = ((tat set (c.getD j 0)).E == (tat set i).W) := by
  unfold follows
  have : (c.take (j + 1)).getLast? = some (c.getD j 0) := by
    have e : c.take (j + 1) = c.take j ++ [c[j]] := by rw [List.take_add_one, List.getElem?_eq_getElem hj]; rfl
    rw [e, List.getLast?_append]
    simp [List.getElem?_eq_getElem hj]
  rw [this]
theorem mem_rowsL (set : List Tile) (w : Nat) (c : List Nat) : c ∈ rowsL set w [] ↔ RowOK set w c := by
  rw [mem_rowsL0]
  constructor
  · rintro ⟨_, h2, h3⟩
    have hl : c.length = w := by simpa using h2
    refine ⟨hl, fun x hx => (h3 x (by simp) (by omega)).1, fun x hx => ?_⟩
    have := (h3 (x + 1) (by simp) (by omega)).2
    rw [follows_take set c x (by omega)] at this
    exact eq_of_beq this
  · rintro ⟨h1, h2, h3⟩
    refine ⟨by simp, by simp [h1], fun j _ hj => ⟨h2 j (by omega), ?_⟩⟩
    cases j with
    | zero => simp [follows]
    | succ j => rw [follows_take set c j (by omega), h3 j (by omega)]; simp
def sideN (set : List Tile) (c : List Nat) : List Int := c.map fun i => (tat set i).N
def sideS (set : List Tile) (c : List Nat) : List Int := c.map fun i => (tat set i).S
structure Fill (set : List Tile) (w h : Nat) (f : Nat → List Nat) : Prop where
  row : ∀ y, y < h → RowOK set w (f y)
  up : ∀ y, y + 1 < h → sideN set (f y) = sideS set (f (y + 1))
theorem mem_allR (set : List Tile) (w : Nat) (r : Row) : r ∈ allR set w ↔ ∃ c, RowOK set w c ∧ r = mkR set c := by
  unfold allR
  rw [List.mem_map]
  constructor
  · rintro ⟨c, hc, rfl⟩; exact ⟨c, (mem_rowsL set w c).1 hc, rfl⟩
  · rintro ⟨c, hc, rfl⟩; exact ⟨c, (mem_rowsL set w c).2 hc, rfl⟩
theorem mkR_sides {set : List Tile} {w : Nat} (hw : w ≤ 8) {c d : List Nat} (hc : c.length = w) (hd : d.length = w) : (mkR set d).South = (mkR set c).North ↔ sideN set c = sideS set d := by
  show wordOf (sideS set d) = wordOf (sideN set c) ↔ _
  rw [wordOf_inj (by simp [sideS]; omega) (by simp [sideS, sideN]; omega)]
  exact eq_comm
def JPf (set : List Tile) (p : Pattern) (W H : Nat) : Prop := ((List.range (H * W)).all fun i => rightB set p W H false i && upB set p W H false i) = true
theorem jpf_iff {set : List Tile} {p : Pattern} {W H : Nat} (hW : 1 ≤ W) : JPf set p W H ↔ (∀ x y, x + 1 < W → y < H → (tl set p (y * W + x)).E = (tl set p (y * W + (x + 1))).W) ∧ ∀ x y, x < W → y + 1 < H → (tl set p (y * W + x)).N = (tl set p ((y + 1) * W + x)).S := by
  have q1 : ∀ y x, x < W → (y * W + x) % W = x := fun y x hx => by rw [Nat.mul_comm, Nat.mul_add_mod, Nat.mod_eq_of_lt hx]
  have q2 : ∀ y x, x < W → (y * W + x) / W = y := fun y x hx => by rw [Nat.mul_comm, Nat.mul_add_div (by omega), Nat.div_eq_of_lt hx]; omega
  unfold JPf
  simp only [List.all_eq_true, List.mem_range, Bool.and_eq_true]
  constructor
  · intro h
    refine ⟨fun x y hx hy => ?_, fun x y hx hy => ?_⟩
    · have := (h _ (place_lt (show x < W by omega) hy)).1
      unfold rightB at this
      rw [q1 y x (by omega), q2 y x (by omega), Nat.mod_eq_of_lt hx] at this
      simpa [hx] using this
    · have := (h _ (place_lt hx (show y < H by omega))).2
      unfold upB at this
      rw [q1 y x hx, q2 y x hx, Nat.mod_eq_of_lt hy] at this
      simpa [hy] using this
  · rintro ⟨h1, h2⟩ i hi
    have hx : i % W < W := Nat.mod_lt _ (by omega)
    have hy : i / W < H := Nat.div_lt_of_lt_mul (by rw [Nat.mul_comm]; exact hi)
    have ei : i / W * W + i % W = i := by rw [Nat.mul_comm, Nat.div_add_mod]
    unfold rightB upB
    constructor
    · by_cases hc : i % W + 1 < W
      · rw [Nat.mod_eq_of_lt hc]
        have := h1 (i % W) (i / W) hc hy
        rw [ei] at this
        simp [this]
      · simp [hc]
    · by_cases hc : i / W + 1 < H
      · rw [Nat.mod_eq_of_lt hc]
        have := h2 (i % W) (i / W) hx hc
        rw [ei] at this
        simp [this]
      · simp [hc]
def patR (w h : Nat) (f : Nat → List Nat) : Pattern := ⟨w, h, (List.range h).flatMap fun y => cz (f y)⟩
theorem patR_cells {set : List Tile} {w h : Nat} {f : Nat → List Nat} (hf : Fill set w h f) : (patR w h f).Cells.length = h * w ∧ ∀ x y, x < w → y < h → (patR w h f).Cells.getD (y * w + x) 0 = (((f y).getD x 0 : Nat) : Int) := by
  have key : ∀ n, n ≤ h → ((List.range n).flatMap fun y => cz (f y)).length = n * w := by
    intro n
    induction n with
    | zero => intro _; simp
    | succ n ih =>
      intro hn
      rw [flat_succ, List.length_append, ih (by omega), Nat.add_mul]
      have := (hf.row n (by omega)).len
      simp [cz, this]
  refine ⟨key h (Nat.le_refl _), fun x y hx hy => ?_⟩
  have hsplit : ∀ n, y < n → n ≤ h → ((List.range n).flatMap fun y => cz (f y))[y * w + x]? = some (((f y).getD x 0 : Nat) : Int) := by
    intro n
    induction n with
    | zero => intro h; omega
    | succ n ih =>
      intro hy hn
      rw [flat_succ, List.getElem?_append, key n (by omega)]
      by_cases e : y = n
      · subst e
        have hl := (hf.row y (by omega)).len
        rw [if_neg (by omega), show y * w + x - y * w = x by omega]
        simp [cz, List.getElem?_map, List.getElem?_eq_getElem (show x < (f y).length by omega)]
      · rw [if_pos (place_lt hx (by omega))]; exact ih (by omega) (by omega)
  show ((List.range h).flatMap fun y => cz (f y)).getD (y * w + x) 0 = _
  rw [List.getD_eq_getElem?_getD, hsplit h hy (Nat.le_refl _)]; rfl
theorem pattern_of_fill {set : List Tile} {w h : Nat} {f : Nat → List Nat} (hf : Fill set w h f) (hw : 1 ≤ w ∧ w ≤ 40000) (hh : 1 ≤ h ∧ h ≤ 40000) (hwh : h * w ≤ 40000) : PForm set (patR w h f) w h ∧ JPf set (patR w h f) w h := by
  obtain ⟨c1, c2⟩ := patR_cells hf
  have hp : PForm set (patR w h f) w h := by
    refine ⟨rfl, rfl, hw, hh, hwh, c1, fun j hj => ?_⟩
    have hx : j % w < w := Nat.mod_lt _ (by omega)
    have hy : j / w < h := Nat.div_lt_of_lt_mul (by rw [Nat.mul_comm]; exact hj)
    have := c2 (j % w) (j / w) hx hy
    rw [show j / w * w + j % w = j by rw [Nat.mul_comm, Nat.div_add_mod]] at this
    have hlt := (hf.row (j / w) hy).lt (j % w) hx
    rw [this]; omega
  have htl : ∀ x y, x < w → y < h → tl set (patR w h f) (y * w + x) = tat set ((f y).getD x 0) := fun x y hx hy => by
    unfold tl; rw [c2 x y hx hy]; rfl
  refine ⟨hp, (jpf_iff hw.1).2 ⟨fun x y hx hy => ?_, fun x y hx hy => ?_⟩⟩
  · rw [htl x y (by omega) hy, htl (x + 1) y hx hy]; exact (hf.row y hy).adj x hx
  · rw [htl x y hx (by omega), htl x (y + 1) hx hy]
    have h1 := congrArg (fun l => l.getD x 0) (hf.up y hy)
    have l1 := (hf.row y (by omega)).len
    have l2 := (hf.row (y + 1) hy).len
    simp only [sideN, sideS, List.getD_eq_getElem?_getD, List.getElem?_map, List.getElem?_eq_getElem (show x < (f y).length by omega), List.getElem?_eq_getElem (show x < (f (y + 1)).length by omega), Option.map_some, Option.getD_some] at h1 ⊢
    exact h1
end Gp
set_option linter.unusedVariables false
set_option linter.unusedSimpArgs false
namespace Gp
open Gw Gq
/-! ### squares -/
end Gp
set_option linter.unusedVariables false
set_option linter.unusedSimpArgs false
namespace Gp
open Gw Gq
/-! ### tori -/
def ringL (set : List Tile) (w : Nat) : List Row := (allR set w).filter fun r => r.West == r.East
theorem foldl_filter {α : Type} (p : α → Bool) : ∀ (l acc : List α), l.foldl (fun a x => if p x = true then a ++ [x] else a) acc = acc ++ l.filter p
  | [], acc => by simp
  | x :: r, acc => by
    rw [List.foldl_cons, foldl_filter p r, List.filter_cons]
    cases p x <;> simp
theorem rings_eq (set : List Tile) (w : Nat) (h1 : 1 ≤ w) (h8 : w ≤ 8) (hl : set.length ≤ 1000000) (hf : set.length ^ w ≤ 1000000) {k : Nat} (hk : set.length + set.length ^ w + 20 < k) : torus_rings k set (w : Int) = some (ringL set w) := by
  have hR := allR_len set w
  unfold torus_rings
  rw [all_eq set w h1 h8 hl (by omega) (by omega), Option.bind_some]
  have := loop_list (F := fun k i (s : List Row) => torus_rings.l0 k s i (allR set w)) (allR set w) (fun a x => if (x.West == x.East) = true then a ++ [x] else a) 0 (fun i s => s.length ≤ i) id (fun k i s h _ hP => by
    have hwi : w64 ((i : Int) + 1) = ((i + 1 : Nat) : Int) := by rw [w64_id (by omega) (by omega)]; rfl
    constructor
    · show torus_rings.l0 (k + 1) s i (allR set w) = _
      rw [torus_rings.l0, if_pos (by simpa using h), if_pos (by omega), rdD_get h, hwi]
      cases hb : ((allR set w)[i].West == (allR set w)[i].East)
      · simp
      · simp only [if_true]; rw [if_pos (by omega)]; rfl
    · split
      · rw [List.length_append]; simp; omega
      · omega) (fun k s _ => by
    show torus_rings.l0 (k + 1) s (allR set w).length (allR set w) = _
    rw [torus_rings.l0, if_neg (by simp)]; rfl) [] (Nat.le_refl _) k (by omega)
  have h2 : torus_rings.l0 k [] 0 (allR set w) = some (id ((allR set w).foldl (fun a x => if (x.West == x.East) = true then a ++ [x] else a) [])) := this
  rw [h2, foldl_filter]; rfl
def nextM (l : List Row) (m : List (A8_Int × Bool)) : List (A8_Int × Bool) := l.foldl (fun acc r => if mget r.North false m = true then mput r.South true acc else acc) []
def itM (l : List Row) (t : A8_Int) : Nat → List (A8_Int × Bool)
  | 0 => mput t true []
  | n + 1 => nextM l (itM l t n)
def reachB (l : List Row) (t : A8_Int) : Nat → A8_Int → Bool
  | 0, s => decide (s = t)
  | n + 1, s => l.any fun r => decide (r.South = s) && reachB l t n r.North
theorem itM_get (l : List Row) (t : A8_Int) : ∀ (n : Nat) (s : A8_Int), mget s false (itM l t n) = reachB l t n s
  | 0, s => by
    simp only [itM, mput, mget, reachB]
    by_cases h : s = t <;> simp [h]
  | n + 1, s => by
    simp only [itM, nextM, reachB]
    rw [mget_marks (key := fun r : Row => r.South) (c := fun r => mget r.North false (itM l t n))]
    simp only [mget, Bool.false_or]
    congr 1
    funext r
    rw [itM_get l t n]
def backS (l : List Row) (t : A8_Int) (n : Nat) : List (Option (List (A8_Int × Bool))) := (List.range (n + 1)).map fun i => some (itM l t i)
theorem back_eq (l : List Row) (t : A8_Int) (n : Nat) (hl : l.length ≤ 1000000) (hn : n ≤ 1000) {k : Nat} (hk : l.length + n + 10 < k) : torus_back k l t (n : Int) = some (backS l t n) := by
  have hl1 : ∀ (m : List (A8_Int × Bool)) {k : Nat}, l.length < k → torus_back.l1 k [] 0 l m = some (nextM l m) := fun m k hk => by
    have := loop_list (F := fun k i (s : List (A8_Int × Bool)) => torus_back.l1 k s i l m) l (fun acc r => if mget r.North false m = true then mput r.South true acc else acc) 0 (fun _ _ => True) id (fun k i s h _ _ => by
      have hwi : w64 ((i : Int) + 1) = ((i + 1 : Nat) : Int) := by rw [w64_id (by omega) (by omega)]; rfl
      refine ⟨?_, trivial⟩
      show torus_back.l1 (k + 1) s i l m = _
      rw [torus_back.l1, if_pos (by simpa using h), if_pos (by omega), rdD_get h, hwi]
      cases hb : mget l[i].North false m <;> simp) (fun k s _ => by
      show torus_back.l1 (k + 1) s l.length l m = _
      rw [torus_back.l1, if_neg (by simp)]; rfl) [] trivial k (by omega)
    exact this
  have key : ∀ d i k, i + d = n → d + l.length + 5 < k → torus_back.l0 k (backS l t i) (i : Int) l (n : Int) = some (backS l t n) := by
    intro d
    induction d with
    | zero =>
      intro i k hi hk
      obtain ⟨k, rfl⟩ : ∃ m, k = m + 1 := ⟨k - 1, by omega⟩
      have : i = n := by omega
      subst this
      rw [torus_back.l0, if_neg (by simp)]
    | succ d ih =>
      intro i k hi hk
      obtain ⟨k, rfl⟩ : ∃ m, k = m + 1 := ⟨k - 1, by omega⟩
      have hbl : (backS l t i).length = i + 1 := by simp [backS]
      have hw : w64 (((backS l t i).length : Int) - 1) = (i : Int) := by rw [hbl, w64_id (by omega) (by omega)]; omega
      have hwi : w64 ((i : Int) + 1) = ((i + 1 : Nat) : Int) := by rw [w64_id (by omega) (by omega)]; rfl
      have hg : rdD (backS l t i) (i : Int) none = some (itM l t i) := by
        rw [rdD_get (by rw [hbl]; omega)]; simp [backS]
      rw [torus_back.l0, if_pos (by simp; omega), hw, if_pos (by rw [hbl]; omega), hg, Option.bind_some, hl1 _ (by omega), Option.bind_some, if_pos (by rw [hbl]; omega), hwi]
      have e : backS l t i ++ [some (nextM l (itM l t i))] = backS l t (i + 1) := by
        unfold backS; rw [map_succ _ (i + 1)]; rfl
      rw [e]
      exact ih (i + 1) k (by omega) (by omega)
  have := key n 0 k (by omega) (by omega)
  unfold torus_back
  have h0 : torus_back.l0 k [some (mput t true [])] 0 l (n : Int) = _ := this
  rw [h0]; rfl
def walkT (l : List Row) (t : A8_Int) : Nat → A8_Int → List Row
  | 0, _ => []
  | m + 1, s => match l.find? (fun r => decide (r.South = s) && reachB l t m r.North) with
    | none => walkT l t m s
    | some r => r :: walkT l t m r.North
def cellsR (l : List Row) : List Int := l.flatMap (·.Cells)
theorem find_l2 (l : List Row) (t : A8_Int) (n m : Nat) (hm : m ≤ n) (hl : l.length ≤ 1000000) (hn : n ≤ 1000) (hC : ∀ r ∈ l, r.Cells.length ≤ 8) (kn : List (A8_Int × List (Option (List (A8_Int × Bool))))) (cells : List Int) (s : A8_Int) (hc : cells.length ≤ 1000000) {k : Nat} (hk : l.length < k) :
    torus_find.l2 k 0 l (kn, backS l t n) cells s (m : Int) = some (match l.find? (fun r => decide (r.South = s) && reachB l t m r.North) with
      | none => (cells, s)
      | some r => (cells ++ r.Cells, r.North)) := by
  have hbl : (backS l t n).length = n + 1 := by simp [backS]
  have hg : rdD (backS l t n) (m : Int) none = some (itM l t m) := by rw [rdD_get (by rw [hbl]; omega)]; simp [backS]
  have key : ∀ d i k, i + d = l.length → d < k → torus_find.l2 k (i : Int) l (kn, backS l t n) cells s (m : Int) = some (match (l.drop i).find? (fun r => decide (r.South = s) && reachB l t m r.North) with
      | none => (cells, s)
      | some r => (cells ++ r.Cells, r.North)) := by
    intro d
    induction d with
    | zero =>
      intro i k hi hk
      obtain ⟨k, rfl⟩ : ∃ m, k = m + 1 := ⟨k - 1, by omega⟩
      have : i = l.length := by omega
      subst this
      rw [torus_find.l2, if_neg (by simp), List.drop_length]; rfl
    | succ d ih =>
      intro i k hi hk
      obtain ⟨k, rfl⟩ : ∃ m, k = m + 1 := ⟨k - 1, by omega⟩
      have hlt : i < l.length := by omega
      have hwi : w64 ((i : Int) + 1) = ((i + 1 : Nat) : Int) := by rw [w64_id (by omega) (by omega)]; rfl
      rw [torus_find.l2, if_pos (by simpa using hlt), if_pos (by omega), rdD_get hlt, hwi, word_beq, hg, if_pos (show 0 ≤ (m : Int) ∧ (m : Int) < ((backS l t n).length : Int) by rw [hbl]; omega), Option.bind_some, itM_get, List.drop_eq_getElem_cons hlt, List.find?_cons]
      have hCi := hC l[i] (List.getElem_mem _)
      have e1 : (if decide (l[i].South = s) = true then some (reachB l t m l[i].North) else some false) = some (decide (l[i].South = s) && reachB l t m l[i].North) := by cases decide (l[i].South = s) <;> rfl
      rw [e1, Option.bind_some]
      cases decide (l[i].South = s) && reachB l t m l[i].North
      · simp only [Bool.false_eq_true, if_false]
        exact ih (i + 1) k (by omega) (by omega)
      · simp only [if_true]; rw [if_pos (by omega)]
  have := key l.length 0 k (by omega) hk
  simpa using this
theorem find_l1 (l : List Row) (t : A8_Int) (n : Nat) (hl : l.length ≤ 1000000) (hn : n ≤ 1000) (hC : ∀ r ∈ l, r.Cells.length ≤ 8) (kn : List (A8_Int × List (Option (List (A8_Int × Bool))))) : ∀ (m : Nat) (cells : List Int) (s : A8_Int) (k : Nat), m ≤ n + 1 → cells.length + 8 * m ≤ 1000000 → m + l.length + 1 < k →
    torus_find.l1 k cells s ((m : Int) - 1) l (kn, backS l t n) = some (cells ++ cellsR (walkT l t m s)) := by
  intro m
  induction m with
  | zero =>
    intro cells s k _ hc hk
    obtain ⟨k, rfl⟩ : ∃ m, k = m + 1 := ⟨k - 1, by omega⟩
    rw [torus_find.l1, if_neg (by simp)]; simp [walkT, cellsR]
  | succ m ih =>
    intro cells s k hm hc hk
    obtain ⟨k, rfl⟩ : ∃ m, k = m + 1 := ⟨k - 1, by omega⟩
    have e1 : (((m + 1 : Nat) : Int) - 1) = (m : Int) := by omega
    have hw : w64 ((m : Int) - 1) = (m : Int) - 1 := w64_id (by omega) (by omega)
    rw [e1, torus_find.l1, if_pos (by simp), find_l2 l t n m (by omega) hl hn hC kn cells s (by omega) (by omega), Option.bind_some, walkT, hw]
    cases hf : l.find? (fun r => decide (r.South = s) && reachB l t m r.North) with
    | none => exact ih cells s k (by omega) (by omega) (by omega)
    | some r =>
      have hCr := hC r (List.mem_of_find?_eq_some hf)
      simp only
      rw [ih (cells ++ r.Cells) r.North k (by omega) (by rw [List.length_append]; omega) (by omega)]
      simp [cellsR]
def findS (l : List Row) (h : Nat) : Option (List Row) := (l.find? fun f => reachB l f.South (h - 1) f.North).map fun f => f :: walkT l f.South (h - 1) f.North
def KnownOK (l : List Row) (h : Nat) (kn : List (A8_Int × List (Option (List (A8_Int × Bool))))) : Prop := ∀ s, mhas s kn = true → mget s [] kn = backS l s (h - 1)
theorem mhas_mput {κ ν : Type} [DecidableEq κ] (x y : κ) (v : ν) : ∀ l : List (κ × ν), mhas x (mput y v l) = (decide (x = y) || mhas x l)
  | [] => by simp [mput, mhas]
  | p :: r => by
    simp only [mput]
    by_cases h : y = p.1
    · rw [if_pos h]
      simp only [mhas]
      by_cases hx : x = y
      · simp [hx]
      · have : ¬ x = p.1 := fun e => hx (e.trans h.symm)
        simp [hx, this]
    · rw [if_neg h]
      simp only [mhas]
      by_cases hx : x = p.1
      · simp [hx]
      · rw [if_neg hx, if_neg hx]; exact mhas_mput x y v r
theorem find_l0 (l : List Row) (w h : Nat) (h1 : 1 ≤ h) (hh : h ≤ 100) (hl : l.length ≤ 1000000) (hC : ∀ r ∈ l, r.Cells.length ≤ 8) : ∀ (d i : Nat) (kn : List (A8_Int × List (Option (List (A8_Int × Bool))))) (k : Nat), i + d = l.length → KnownOK l h kn → d + l.length + h + 20 < k →
    torus_find.l0 k kn (i : Int) (w : Int) (h : Int) l = some (match (l.drop i).find? (fun f => reachB l f.South (h - 1) f.North) with
      | none => .inr ()
      | some f => .inl (⟨w, h, cellsR (f :: walkT l f.South (h - 1) f.North)⟩, true)) := by
  have hw1 : w64 ((h : Int) - 1) = ((h - 1 : Nat) : Int) := by rw [w64_id (by omega) (by omega)]; omega
  have hw2 : w64 ((h : Int) - 2) = ((h - 1 : Nat) : Int) - 1 := by rw [w64_id (by omega) (by omega)]; omega
  intro d
  induction d with
  | zero =>
    intro i kn k hi hkn hk
    obtain ⟨k, rfl⟩ : ∃ m, k = m + 1 := ⟨k - 1, by omega⟩
    have : i = l.length := by omega
    subst this
    rw [torus_find.l0, if_neg (by simp), List.drop_length]; rfl
  | succ d ih =>
    intro i kn k hi hkn hk
    obtain ⟨k, rfl⟩ : ∃ m, k = m + 1 := ⟨k - 1, by omega⟩
    have hlt : i < l.length := by omega
    have hwi : w64 ((i : Int) + 1) = ((i + 1 : Nat) : Int) := by rw [w64_id (by omega) (by omega)]; rfl
    have hCi := hC l[i] (List.getElem_mem _)
    have hbl : (backS l l[i].South (h - 1)).length = h := by simp [backS]; omega
    have hg : rdD (backS l l[i].South (h - 1)) ((h - 1 : Nat) : Int) none = some (itM l l[i].South (h - 1)) := by rw [rdD_get (by rw [hbl]; omega)]; simp [backS]
    have hkn' : ∃ kn', KnownOK l h kn' ∧ (if (!(mhas l[i].South kn)) = true then ((torus_back k l l[i].South (w64 ((h : Int) - 1))).bind fun t => some (mput l[i].South t kn, t)) else (some (kn, (mget l[i].South [] kn)))) = some (kn', backS l l[i].South (h - 1)) := by
      cases hm : mhas l[i].South kn
      · refine ⟨mput l[i].South (backS l l[i].South (h - 1)) kn, fun s hs => ?_, ?_⟩
        · rw [mget_mput]
          by_cases hx : s = l[i].South
          · rw [if_pos hx, hx]
          · rw [if_neg hx]
            rw [mhas_mput] at hs
            simp [hx] at hs
            exact hkn s hs
        · rw [if_pos (by simp), hw1, back_eq l l[i].South (h - 1) hl (by omega) (by omega)]; rfl
      · exact ⟨kn, hkn, by rw [if_neg (by simp), hkn _ hm]⟩
    obtain ⟨kn', hk1, hk2⟩ := hkn'
    rw [torus_find.l0, if_pos (by simpa using hlt), if_pos (by omega), rdD_get hlt, hk2, Option.bind_some, hw1, hw2]
    simp only
    rw [if_pos (by rw [hbl]; omega), hg, Option.bind_some, itM_get, List.drop_eq_getElem_cons hlt, List.find?_cons, hwi]
    cases hr : reachB l l[i].South (h - 1) l[i].North
    · simp only [Bool.not_false, if_true, Bool.false_eq_true, if_false]
      exact ih (i + 1) kn' k (by omega) hk1 (by omega)
    · rw [if_neg (by simp), if_pos (by simp; omega), find_l1 l l[i].South (h - 1) hl (by omega) hC kn' (h - 1) _ _ k (by omega) (by simp; omega) (by omega)]
      simp [cellsR]
theorem find_eq (set : List Tile) (w h : Nat) (hw : 1 ≤ w ∧ w ≤ 8) (hh : 1 ≤ h ∧ h ≤ 100) (hl : set.length ≤ 1000) (hf : set.length ^ w ≤ 100000) {k : Nat} (hk : 300000 < k) : torus_find k set w h = some (match findS (ringL set w) h with
    | none => (p0P, false)
    | some l => (⟨w, h, cellsR l⟩, true)) := by
  have hR := allR_len set w
  have hrl : (ringL set w).length ≤ set.length ^ w := Nat.le_trans (List.length_filter_le _ _) hR
  have hC : ∀ r ∈ ringL set w, r.Cells.length ≤ 8 := by
    intro r hr
    unfold ringL at hr
    rw [List.mem_filter] at hr
    obtain ⟨c, hc, rfl⟩ := (mem_allR set w r).1 hr.1
    have := hc.len
    simp [mkR, cz]; omega
  unfold torus_find
  rw [rings_eq set w hw.1 hw.2 (by omega) (by omega) (by omega), Option.bind_some]
  have := find_l0 (ringL set w) w h hh.1 hh.2 (by omega) hC (ringL set w).length 0 [] k (by omega) (fun s hs => by cases hs) (by omega)
  have h0 : torus_find.l0 k [] 0 (w : Int) (h : Int) (ringL set w) = _ := this
  rw [h0, Option.bind_some, List.drop_zero]
  unfold findS
  cases (ringL set w).find? (fun f => reachB (ringL set w) f.South (h - 1) f.North) <;> rfl
end Gp
set_option linter.unusedVariables false
set_option linter.unusedSimpArgs false
namespace Gp
open Gw Gq
structure TorF (set : List Tile) (w h : Nat) (f : Nat → List Nat) : Prop where
  fill : Fill set w h f
  ring : ∀ y, y < h → (tat set ((f y).getD (w - 1) 0)).E = (tat set ((f y).getD 0 0)).W
  top : sideN set (f (h - 1)) = sideS set (f 0)
theorem walk_path (l : List Row) (t : A8_Int) : ∀ (m : Nat) (s : A8_Int), reachB l t m s = true → (walkT l t m s).length = m ∧ (∀ r ∈ walkT l t m s, r ∈ l) ∧ ∃ b : Nat → A8_Int, b 0 = s ∧ b m = t ∧ ∀ j, j < m → ((walkT l t m s).getD j z_Row).South = b j ∧ ((walkT l t m s).getD j z_Row).North = b (j + 1)
  | 0, s, h => by
    simp only [reachB, decide_eq_true_eq] at h
    subst h
    exact ⟨rfl, fun r hr => by simp [walkT] at hr, fun _ => s, rfl, rfl, fun j hj => by omega⟩
  | m + 1, s, h => by
    rw [reachB, List.any_eq_true] at h
    obtain ⟨r0, hr0, h0⟩ := h
    cases hf : l.find? (fun r => decide (r.South = s) && reachB l t m r.North) with
    | none =>
      rw [List.find?_eq_none] at hf
      exact absurd h0 (hf r0 hr0)
    | some r =>
      have hp := List.find?_some hf
      have hm := List.mem_of_find?_eq_some hf
      simp only [Bool.and_eq_true, decide_eq_true_eq] at hp
      obtain ⟨h1, h2, b, b0, bm, hb⟩ := walk_path l t m r.North hp.2
      have e : walkT l t (m + 1) s = r :: walkT l t m r.North := by rw [walkT, hf]
      rw [e]
      refine ⟨by simp [h1], fun q hq => ?_, fun j => if j = 0 then s else b (j - 1), rfl, by simpa using bm, fun j hj => ?_⟩
      · rcases List.mem_cons.1 hq with rfl | hq
        · exact hm
        · exact h2 q hq
      · cases j with
        | zero => exact ⟨by simpa using hp.1, by simpa using b0.symm⟩
        | succ j => simpa using hb j (by omega)
theorem reach_of_path (l : List Row) : ∀ (m : Nat) (b : Nat → A8_Int), (∀ j, j < m → ∃ r ∈ l, r.South = b j ∧ r.North = b (j + 1)) → reachB l (b m) m (b 0) = true
  | 0, b, _ => by simp [reachB]
  | m + 1, b, h => by
    rw [reachB, List.any_eq_true]
    obtain ⟨r, hr, h1, h2⟩ := h 0 (by omega)
    refine ⟨r, hr, ?_⟩
    have := reach_of_path l m (fun j => b (j + 1)) (fun j hj => h (j + 1) (by omega))
    rw [Bool.and_eq_true, decide_eq_true_eq, h2]
    exact ⟨h1, this⟩
theorem mem_ringL (set : List Tile) {w : Nat} (h1 : 1 ≤ w) (r : Row) : r ∈ ringL set w ↔ ∃ c, RowOK set w c ∧ (tat set (c.getD (w - 1) 0)).E = (tat set (c.getD 0 0)).W ∧ r = mkR set c := by
  unfold ringL
  rw [List.mem_filter, mem_allR]
  have key : ∀ c, RowOK set w c → ((mkR set c).West == (mkR set c).East) = decide ((tat set (c.getD (w - 1) 0)).E = (tat set (c.getD 0 0)).W) := fun c hc => by
    have hl := hc.len
    have e1 : c.headD 0 = c.getD 0 0 := by cases c <;> rfl
    have e2 : c.getLastD 0 = c.getD (w - 1) 0 := by
      have hn : c ≠ [] := by intro e; rw [e] at hl; simp at hl; omega
      rw [List.getLastD_eq_getLast?, List.getLast?_eq_some_getLast hn, Option.getD_some, List.getLast_eq_getElem]
      simp [hl, List.getElem?_eq_getElem (show w - 1 < c.length by omega)]
    show ((tat set (c.headD 0)).W == (tat set (c.getLastD 0)).E) = _
    rw [e1, e2, Bool.eq_iff_iff]
    simp only [beq_iff_eq, decide_eq_true_eq]
    exact eq_comm
  constructor
  · rintro ⟨⟨c, hc, rfl⟩, h⟩
    rw [key c hc, decide_eq_true_eq] at h
    exact ⟨c, hc, h, rfl⟩
  · rintro ⟨c, hc, h, rfl⟩
    exact ⟨⟨c, hc, rfl⟩, by rw [key c hc]; exact decide_eq_true h⟩
theorem word_sides {set : List Tile} {w : Nat} (hw : w ≤ 8) {c d : List Nat} (hc : c.length = w) (hd : d.length = w) : (mkR set c).North = (mkR set d).South ↔ sideN set c = sideS set d := by
  rw [← mkR_sides hw hc hd]; exact eq_comm
theorem find_none {set : List Tile} {w h : Nat} (hw : 1 ≤ w ∧ w ≤ 8) (hh : 1 ≤ h) (hn : findS (ringL set w) h = none) (f : Nat → List Nat) : ¬ TorF set w h f := by
  intro hf
  unfold findS at hn
  rw [Option.map_eq_none_iff, List.find?_eq_none] at hn
  have hmem : ∀ y, y < h → mkR set (f y) ∈ ringL set w := fun y hy => (mem_ringL set hw.1 _).2 ⟨_, hf.fill.row y hy, hf.ring y hy, rfl⟩
  have hlen : ∀ y, y < h → (f y).length = w := fun y hy => (hf.fill.row y hy).len
  have := hn _ (hmem 0 (by omega))
  apply this
  have hb := reach_of_path (ringL set w) (h - 1) (fun j => (mkR set (f j)).North) (fun j hj => ⟨mkR set (f (j + 1)), hmem (j + 1) (by omega), ((word_sides hw.2 (hlen j (by omega)) (hlen (j + 1) (by omega))).2 (hf.fill.up j (by omega))).symm, rfl⟩)
  have ht : (mkR set (f (h - 1))).North = (mkR set (f 0)).South := (word_sides hw.2 (hlen _ (by omega)) (hlen 0 (by omega))).2 hf.top
  have hb' : reachB (ringL set w) (mkR set (f (h - 1))).North (h - 1) (mkR set (f 0)).North = true := hb
  rw [ht] at hb'
  exact hb'
theorem find_some {set : List Tile} {w h : Nat} (hw : 1 ≤ w ∧ w ≤ 8) (hh : 1 ≤ h) {l : List Row} (hn : findS (ringL set w) h = some l) : ∃ f, TorF set w h f ∧ (⟨w, h, cellsR l⟩ : Pattern) = patR w h f := by
  unfold findS at hn
  rw [Option.map_eq_some_iff] at hn
  obtain ⟨r0, hf, rfl⟩ := hn
  have hp := List.find?_some hf
  have hm := List.mem_of_find?_eq_some hf
  obtain ⟨h1, h2, b, b0, bm, hb⟩ := walk_path _ _ _ _ hp
  obtain ⟨L, hL⟩ : ∃ L, r0 :: walkT (ringL set w) r0.South (h - 1) r0.North = L := ⟨_, rfl⟩
  have hlen : L.length = h := by rw [← hL]; simp [h1]; omega
  have hLm : ∀ r ∈ L, r ∈ ringL set w := by
    rw [← hL]; intro r hr
    rcases List.mem_cons.1 hr with rfl | hr
    · exact hm
    · exact h2 r hr
  have hex : ∀ y, ∃ c, y < h → RowOK set w c ∧ (tat set (c.getD (w - 1) 0)).E = (tat set (c.getD 0 0)).W ∧ L.getD y z_Row = mkR set c := fun y => by
    by_cases hy : y < h
    · have : L.getD y z_Row ∈ ringL set w := by
        rw [List.getD_eq_getElem?_getD, List.getElem?_eq_getElem (by omega)]; exact hLm _ (List.getElem_mem _)
      obtain ⟨c, h1, h2, h3⟩ := (mem_ringL set hw.1 _).1 this
      exact ⟨c, fun _ => ⟨h1, h2, h3⟩⟩
    · exact ⟨[], fun h => absurd h hy⟩
  obtain ⟨f, hfy⟩ : ∃ f : Nat → List Nat, ∀ y, y < h → RowOK set w (f y) ∧ (tat set ((f y).getD (w - 1) 0)).E = (tat set ((f y).getD 0 0)).W ∧ L.getD y z_Row = mkR set (f y) := ⟨fun y => Classical.choose (hex y), fun y => Classical.choose_spec (hex y)⟩
  -- the words between the rows
  have hwd : ∀ j, j < h → (L.getD j z_Row).North = b j ∧ (j + 1 < h → (L.getD (j + 1) z_Row).South = b j) := fun j hj => by
    constructor
    · cases j with
      | zero => rw [← hL]; exact b0.symm
      | succ j =>
        have := (hb j (by omega)).2
        rw [← hL]; simpa using this
    · intro hj1
      have := (hb j (by omega)).1
      rw [← hL]; simpa using this
  refine ⟨f, ⟨⟨fun y hy => (hfy y hy).1, fun y hy => ?_⟩, fun y hy => (hfy y hy).2.1, ?_⟩, ?_⟩
  · have e1 := (hwd y (by omega)).1
    have e2 := (hwd y (by omega)).2 hy
    rw [(hfy y (by omega)).2.2] at e1
    rw [(hfy (y + 1) hy).2.2] at e2
    exact (word_sides hw.2 (hfy y (by omega)).1.len (hfy (y + 1) hy).1.len).1 (e1.trans e2.symm)
  · have e1 := (hwd (h - 1) (by omega)).1
    rw [(hfy (h - 1) (by omega)).2.2, bm] at e1
    have e2 : L.getD 0 z_Row = r0 := by rw [← hL]; rfl
    rw [← e2, (hfy 0 (by omega)).2.2] at e1
    exact (word_sides hw.2 (hfy (h - 1) (by omega)).1.len (hfy 0 (by omega)).1.len).1 e1
  · unfold patR
    congr 1
    unfold cellsR
    have : L = (List.range h).map fun y => L.getD y z_Row := by
      apply List.ext_getElem
      · simp [hlen]
      · intro n a b'; simp [List.getElem?_eq_getElem a]
    rw [hL, this, List.flatMap_map]
    have key : ∀ M : List Nat, (∀ y ∈ M, y < h) → (M.flatMap fun y => (L.getD y z_Row).Cells) = M.flatMap fun y => cz (f y) := by
      intro M
      induction M with
      | nil => intro _; rfl
      | cons y M ih =>
        intro hM
        rw [List.flatMap_cons, List.flatMap_cons, ih (fun z hz => hM z (by simp [hz])), (hfy y (hM y (by simp))).2.2]; rfl
    exact key (List.range h) (fun y hy => List.mem_range.1 hy)
/-! tori and patterns -/
def JPt (set : List Tile) (p : Pattern) (W H : Nat) : Prop := ((List.range (H * W)).all fun i => rightB set p W H true i && upB set p W H true i) = true
theorem tor_pattern {set : List Tile} {w h : Nat} {f : Nat → List Nat} (hf : TorF set w h f) (hw : 1 ≤ w ∧ w ≤ 40000) (hh : 1 ≤ h ∧ h ≤ 40000) (hwh : h * w ≤ 40000) : PForm set (patR w h f) w h ∧ JPt set (patR w h f) w h := by
  obtain ⟨pf, pj⟩ := pattern_of_fill hf.fill hw hh hwh
  refine ⟨pf, ?_⟩
  obtain ⟨c1, c2⟩ := patR_cells hf.fill
  have htl : ∀ x y, x < w → y < h → tl set (patR w h f) (y * w + x) = tat set ((f y).getD x 0) := fun x y hx hy => by unfold tl; rw [c2 x y hx hy]; rfl
  unfold JPt
  have pj' : ((List.range (h * w)).all fun i => rightB set (patR w h f) w h false i && upB set (patR w h f) w h false i) = true := pj
  rw [round_iff pf, pj']
  simp only [Bool.true_and, Bool.and_eq_true, List.all_eq_true, List.mem_range, beq_iff_eq]
  refine ⟨fun y hy => ?_, fun x hx => ?_⟩
  · rw [htl (w - 1) y (by omega) hy, htl 0 y (by omega) hy]; exact hf.ring y hy
  · rw [htl x (h - 1) hx (by omega), htl x 0 hx (by omega)]
    have h1 := congrArg (fun l => l.getD x 0) hf.top
    have l1 := (hf.fill.row (h - 1) (by omega)).len
    have l2 := (hf.fill.row 0 (by omega)).len
    simp only [sideN, sideS, List.getD_eq_getElem?_getD, List.getElem?_map, List.getElem?_eq_getElem (show x < (f (h - 1)).length by omega), List.getElem?_eq_getElem (show x < (f 0).length by omega), Option.map_some, Option.getD_some] at h1 ⊢
    exact h1
end Gp
set_option linter.unusedVariables false
set_option linter.unusedSimpArgs false
namespace Gp
open Gw Gq
def repB (set : List Tile) (p : Pattern) : Bool := inB set p && ((List.range (p.Height.toNat * p.Width.toNat)).all fun i => rightB set p p.Width.toNat p.Height.toNat true i && upB set p p.Width.toNat p.Height.toNat true i)
theorem ofB_inB {set : List Tile} (hv : validT set = true) (p : Pattern) : ofB set p = inB set p := by
  unfold ofB inB; rw [hv, Bool.true_and]
theorem rep_form' {set : List Tile} {p : Pattern} {W H : Nat} (f : PForm set p W H) : p.Width.toNat = W ∧ p.Height.toNat = H := by
  have := f.w; have := f.h; omega
theorem rep_tile {set : List Tile} (hv : validT set = true) (p : Pattern) {k : Nat} (hk : 40001 ≤ k) : tile_Repeats k set p = some (repB set p) := by
  have h8 := valid_len hv
  unfold repB
  cases hi : inB set p
  · unfold tile_Repeats
    rw [of_eq set p hk (by omega), ofB_inB hv, hi]; rfl
  · obtain ⟨W, H, f⟩ := inB_iff hi
    obtain ⟨e1, e2⟩ := rep_form' f
    rw [repeats_eq f hv (by omega) hk, e1, e2]; rfl
end Gp
set_option linter.unusedVariables false
set_option linter.unusedSimpArgs false
namespace Gp
open Gw Gq
/-! ### three tiles: a torus, or no square of side four -/
/-! masks of a set -/
def hR (set : List Tile) (i j : Nat) : Bool := decide (i < set.length ∧ j < set.length ∧ (tat set i).E = (tat set j).W)
end Gp
set_option linter.unusedVariables false
set_option linter.unusedSimpArgs false
namespace Gp
open Gw Gq
/-! ### the least torus -/
def tryW (set : List Tile) (m a w : Nat) : Option Pattern := if a % w = 0 ∧ a / w ≤ m then (findS (ringL set w) (a / w)).map fun l => ⟨w, (a / w : Nat), cellsR l⟩ else none
def firstW (set : List Tile) (m a : Nat) : Nat → Nat → Option Pattern
  | 0, _ => none
  | d + 1, w => match tryW set m a w with
    | some p => some p
    | none => firstW set m a d (w + 1)
def firstA (set : List Tile) (m : Nat) : Nat → Nat → Option Pattern
  | 0, _ => none
  | d + 1, a => match firstW set m a m 1 with
    | some p => some p
    | none => firstA set m d (a + 1)
def leastS (set : List Tile) (m : Nat) : Option Pattern := firstA set m (m * m) 1
theorem few_pow {n m w : Nat} (hf : fewB n m = true) (hw : w ≤ m) : n ^ w ≤ 100000 := by
  unfold fewB at hf
  rw [decide_eq_true_eq] at hf
  have h1 : n ^ w ≤ (max n 1) ^ w := Nat.pow_le_pow_left (by omega) w
  have h2 : (max n 1) ^ w ≤ (max n 1) ^ m := Nat.pow_le_pow_right (by omega) hw
  omega
theorem least_l1 (set : List Tile) (m a : Nat) (hm : m ≤ 6) (ha : 1 ≤ a ∧ a ≤ 36) (hl : set.length ≤ 1000) (hf : fewB set.length m = true) : ∀ (d w k : Nat), w + d = m + 1 → 1 ≤ w → 300001 + d < k → torus_Least.l1 k w set m a = some (match firstW set m a d w with
    | some p => .inl (p, 0)
    | none => .inr ())
  | 0, w, k, e, h1, hk => by
    obtain ⟨k, rfl⟩ : ∃ m, k = m + 1 := ⟨k - 1, by omega⟩
    rw [torus_Least.l1, if_neg (by simp; omega)]; rfl
  | d + 1, w, k, e, h1, hk => by
    obtain ⟨k, rfl⟩ : ∃ m, k = m + 1 := ⟨k - 1, by omega⟩
    have ih := least_l1 set m a hm ha hl hf d (w + 1) k (by omega) (by omega) (by omega)
    have e1 : Int.tmod (a : Int) (w : Int) = ((a % w : Nat) : Int) := rfl
    have e2 : Int.tdiv (a : Int) (w : Int) = ((a / w : Nat) : Int) := rfl
    have hq : a / w ≤ a := Nat.div_le_self _ _
    have hq0 : (0 : Int) ≤ ((a / w : Nat) : Int) := Int.natCast_nonneg _
    have hq3 : ((a / w : Nat) : Int) ≤ 36 := Int.ofNat_le.2 (Nat.le_trans hq ha.2)
    have hwi : w64 ((w : Int) + 1) = ((w + 1 : Nat) : Int) := by rw [w64_id (by omega) (by omega)]; rfl
    rw [torus_Least.l1, if_pos (by simp; omega), if_pos (by omega), e1, e2, w64_id (n := ((a / w : Nat) : Int)) (by omega) (by omega), hwi, firstW]
    unfold tryW
    by_cases hc : a % w = 0 ∧ a / w ≤ m
    · have hq1 : 1 ≤ a / w := by
        rcases Nat.eq_zero_or_pos (a / w) with h0 | h0
        · have := Nat.div_add_mod a w
          rw [h0, hc.1, Nat.mul_zero] at this; omega
        · exact h0
      rw [if_neg (by simp; omega), if_pos hc, find_eq set w (a / w) ⟨h1, by omega⟩ ⟨hq1, by omega⟩ hl (few_pow hf (by omega)) (by omega), Option.bind_some]
      cases findS (ringL set w) (a / w) with
      | none => simp only [Option.map_none]; rw [if_neg (by simp), Option.bind_some]; exact ih
      | some l => simp only [Option.map_some]; rw [if_pos trivial, Option.bind_some]; rfl
    · rw [if_pos (by simp; omega), if_neg hc, Option.bind_some]; exact ih
theorem least_l0 (set : List Tile) (m : Nat) (hm : m ≤ 6) (hl : set.length ≤ 1000) (hf : fewB set.length m = true) : ∀ (d a k : Nat), a + d = m * m + 1 → 1 ≤ a → 300010 + d < k → torus_Least.l0 k a set m = some (match firstA set m d a with
    | some p => .inl (p, 0)
    | none => .inr ())
  | 0, a, k, e, h1, hk => by
    obtain ⟨k, rfl⟩ : ∃ m, k = m + 1 := ⟨k - 1, by omega⟩
    have : m * m ≤ 36 := Nat.mul_le_mul hm hm
    rw [torus_Least.l0, show (m : Int) * (m : Int) = ((m * m : Nat) : Int) by simp, w64_id (by omega) (by omega), if_neg (by simp; omega)]; rfl
  | d + 1, a, k, e, h1, hk => by
    obtain ⟨k, rfl⟩ : ∃ m, k = m + 1 := ⟨k - 1, by omega⟩
    have h36 : m * m ≤ 36 := Nat.mul_le_mul hm hm
    have ih := least_l0 set m hm hl hf d (a + 1) k (by omega) (by omega) (by omega)
    have hwi : w64 ((a : Int) + 1) = ((a + 1 : Nat) : Int) := by rw [w64_id (by omega) (by omega)]; rfl
    have l1 := least_l1 set m a hm ⟨h1, by omega⟩ hl hf m 1 k (by omega) (by omega) (by omega)
    have l1' : torus_Least.l1 k 1 set m a = _ := l1
    rw [torus_Least.l0, show (m : Int) * (m : Int) = ((m * m : Nat) : Int) by simp, w64_id (n := ((m * m : Nat) : Int)) (by omega) (by omega), if_pos (by simp; omega), l1', hwi, firstA, Option.bind_some]
    cases firstW set m a m 1 with
    | none => exact ih
    | some p => rfl
theorem least_eq (set : List Tile) (m : Nat) (hv : validT set = true) (hm : 1 ≤ m ∧ m ≤ 6) (hf : fewB set.length m = true) {k : Nat} (hk : 300100 < k) : torus_Least k set m = some (match leastS set m with
    | some p => (p, 0)
    | none => (p0P, 6)) := by
  have hl := valid_len hv
  have h36 : m * m ≤ 36 := Nat.mul_le_mul hm.2 hm.2
  unfold torus_Least
  have l0 := least_l0 set m hm.2 hl hf (m * m) 1 k (by omega) (by omega) (by omega)
  have l0' : torus_Least.l0 k 1 set m = _ := l0
  rw [tile_valid set (by omega) (by omega), hv, Option.bind_some, if_neg (by simp), if_neg (by simp; omega), few_eq set m (by omega) (by omega) (by omega), hf, Option.bind_some, if_neg (by simp), l0', Option.bind_some]
  unfold leastS
  cases firstA set m (m * m) 1 <;> rfl
theorem firstW_some {set : List Tile} {m a : Nat} : ∀ {d w : Nat} {p : Pattern}, firstW set m a d w = some p → ∃ v, w ≤ v ∧ v < w + d ∧ tryW set m a v = some p
  | 0, w, p, h => by cases h
  | d + 1, w, p, h => by
    rw [firstW] at h
    cases ht : tryW set m a w with
    | some q => rw [ht] at h; injection h with h; subst h; exact ⟨w, by omega, by omega, ht⟩
    | none =>
      rw [ht] at h
      obtain ⟨v, h1, h2, h3⟩ := firstW_some h
      exact ⟨v, by omega, by omega, h3⟩
theorem firstW_none {set : List Tile} {m a : Nat} : ∀ {d w : Nat}, firstW set m a d w = none → ∀ v, w ≤ v → v < w + d → tryW set m a v = none
  | 0, w, h, v, h1, h2 => by omega
  | d + 1, w, h, v, h1, h2 => by
    rw [firstW] at h
    cases ht : tryW set m a w with
    | some q => rw [ht] at h; cases h
    | none =>
      rw [ht] at h
      by_cases hv : v = w
      · rw [hv]; exact ht
      · exact firstW_none h v (by omega) (by omega)
theorem firstA_some {set : List Tile} {m : Nat} : ∀ {d a : Nat} {p : Pattern}, firstA set m d a = some p → ∃ b, a ≤ b ∧ b < a + d ∧ firstW set m b m 1 = some p ∧ ∀ c, a ≤ c → c < b → firstW set m c m 1 = none
  | 0, a, p, h => by cases h
  | d + 1, a, p, h => by
    rw [firstA] at h
    cases ht : firstW set m a m 1 with
    | some q => rw [ht] at h; injection h with h; subst h; exact ⟨a, by omega, by omega, ht, fun c _ _ => by omega⟩
    | none =>
      rw [ht] at h
      obtain ⟨v, h1, h2, h3, h4⟩ := firstA_some h
      refine ⟨v, by omega, by omega, h3, fun c hc hcv => ?_⟩
      by_cases he : c = a
      · rw [he]; exact ht
      · exact h4 c (by omega) hcv
theorem tryW_some {set : List Tile} {m a w : Nat} {p : Pattern} (hw : 1 ≤ w ∧ w ≤ 8) (ha : 1 ≤ a) (h : tryW set m a w = some p) : a % w = 0 ∧ 1 ≤ a / w ∧ a / w ≤ m ∧ ∃ f, TorF set w (a / w) f ∧ p = patR w (a / w) f := by
  unfold tryW at h
  split at h
  · rename_i hc
    rw [Option.map_eq_some_iff] at h
    obtain ⟨l, hl, rfl⟩ := h
    have hq1 : 1 ≤ a / w := by
      rcases Nat.eq_zero_or_pos (a / w) with h0 | h0
      · have := Nat.div_add_mod a w
        rw [h0, hc.1, Nat.mul_zero] at this; omega
      · exact h0
    obtain ⟨f, hf, hp⟩ := find_some hw hq1 hl
    exact ⟨hc.1, hq1, hc.2, f, hf, hp⟩
  · cases h
theorem tryW_none {set : List Tile} {m w h : Nat} (hw : 1 ≤ w ∧ w ≤ 8) (hh : 1 ≤ h ∧ h ≤ m) (hn : tryW set m (h * w) w = none) (f : Nat → List Nat) : ¬ TorF set w h f := by
  unfold tryW at hn
  have e1 : h * w / w = h := Nat.mul_div_cancel _ (by omega)
  rw [Nat.mul_mod_left, e1, if_pos ⟨rfl, hh.2⟩, Option.map_eq_none_iff] at hn
  exact find_none hw hh.1 hn f
theorem least_some {set : List Tile} {m : Nat} (hm : m ≤ 6) {p : Pattern} (h : leastS set m = some p) : ∃ w h f, (1 ≤ w ∧ w ≤ m) ∧ (1 ≤ h ∧ h ≤ m) ∧ TorF set w h f ∧ p = patR w h f ∧ ∀ w' h', 1 ≤ w' → w' ≤ m → 1 ≤ h' → h' ≤ m → h' * w' < h * w → ∀ f', ¬ TorF set w' h' f' := by
  obtain ⟨b, b1, b2, b3, b4⟩ := firstA_some h
  obtain ⟨w, w1, w2, w3⟩ := firstW_some b3
  obtain ⟨h1, h2, h3, f, h4, h5⟩ := tryW_some ⟨w1, by omega⟩ b1 w3
  refine ⟨w, b / w, f, ⟨w1, by omega⟩, ⟨h2, h3⟩, h4, h5, fun w' h' a1 a2 a3 a4 hlt f' => ?_⟩
  have hb : b / w * w = b := by
    have := Nat.div_add_mod b w
    rw [h1, Nat.mul_comm] at this; omega
  rw [hb] at hlt
  exact tryW_none ⟨a1, by omega⟩ ⟨a3, a4⟩ (firstW_none (b4 (h' * w') (Nat.mul_pos a3 a1) hlt) w' (by omega) (by omega)) f'
/-! ### the decision -/
end Gp
set_option linter.unusedVariables false
set_option linter.unusedSimpArgs false
namespace Gp
open Gw Gq
/-! ### fillings as grids; turned and renamed sets -/
end Gp
set_option linter.unusedVariables false
set_option linter.unusedSimpArgs false
namespace Gp
open Gw Gq
/-! ### a set with one tile more -/
end Gp
set_option linter.unusedVariables false
set_option linter.unusedSimpArgs false
namespace Gp
open Gw Gq
end Gp
set_option linter.unusedVariables false
set_option linter.unusedSimpArgs false
namespace KD
theorem est_gt {B v1 v0 u32 u1 q r : Nat} (h : q * v1 + r = u32) (ht : B ≤ q ∨ B * r + u1 < q * v0) (hV : u32 < v1 * B + v0) (hu1 : u1 < B) : (u32 * B + u1) / (v1 * B + v0) < q := by
  have hpos : 0 < v1 * B + v0 := by omega
  rw [Nat.div_lt_iff_lt_mul hpos]
  rcases ht with ht | ht
  · have h1 : (u32 + 1) * B ≤ (v1 * B + v0) * B := Nat.mul_le_mul_right B hV
    have h2 : (v1 * B + v0) * B ≤ q * (v1 * B + v0) := by rw [Nat.mul_comm]; exact Nat.mul_le_mul_right _ ht
    rw [Nat.add_mul, Nat.one_mul] at h1
    omega
  · have h1 : q * v1 * B + r * B = u32 * B := by rw [← Nat.add_mul, h]
    have h2 : q * (v1 * B + v0) = q * v1 * B + q * v0 := by rw [Nat.mul_add, Nat.mul_assoc]
    rw [Nat.mul_comm B r] at ht
    omega
theorem est_le {B v1 v0 u32 u1 q r : Nat} (h : q * v1 + r = u32) (ht : q * v0 ≤ B * r + u1) (hpos : 0 < v1 * B + v0) : q ≤ (u32 * B + u1) / (v1 * B + v0) := by
  rw [Nat.le_div_iff_mul_le hpos]
  have h1 : q * v1 * B + r * B = u32 * B := by rw [← Nat.add_mul, h]
  have h2 : q * (v1 * B + v0) = q * v1 * B + q * v0 := by rw [Nat.mul_add, Nat.mul_assoc]
  rw [Nat.mul_comm B r] at ht
  omega
theorem est_0 {B v1 v0 u32 u1 : Nat} (hv : 0 < v1) (hu1 : u1 < B) : (u32 * B + u1) / (v1 * B + v0) ≤ u32 / v1 := by
  rw [Nat.le_div_iff_mul_le hv]
  have hB : 0 < B := by omega
  have hpos : 0 < v1 * B + v0 := by have := Nat.mul_pos hv hB; omega
  have h1 := Nat.div_mul_le_self (u32 * B + u1) (v1 * B + v0)
  generalize (u32 * B + u1) / (v1 * B + v0) = Q at *
  have h2 : Q * (v1 * B + v0) = Q * v1 * B + Q * v0 := by rw [Nat.mul_add, Nat.mul_assoc]
  have h3 : Q * v1 * B < (u32 + 1) * B := by rw [Nat.add_mul, Nat.one_mul]; omega
  have := Nat.lt_of_mul_lt_mul_right h3
  omega
theorem est_top {B v1 v0 u32 q r : Nat} (h : q * v1 + r = u32) (hV : u32 < v1 * B + v0) (hv0 : v0 < B) (hv1 : B ≤ 2 * v1) : q ≤ B + 1 := by
  have h1 : q * v1 < (B + 2) * v1 := by
    rw [Nat.add_mul, Nat.mul_comm B v1]; omega
  have := Nat.lt_of_mul_lt_mul_right h1
  omega
end KD
namespace CR
theorem crt {a b c : Nat} (hab : Nat.Coprime a b) (hac : Nat.Coprime a c) (hbc : Nat.Coprime b c) {D : Int} (ha : D % (a : Int) = 0) (hb : D % (b : Int) = 0) (hc : D % (c : Int) = 0) (hD : D.natAbs < a * b * c) : D = 0 := by
  have d1 : a ∣ D.natAbs := by have := Int.natAbs_dvd_natAbs.2 (Int.dvd_of_emod_eq_zero ha); simpa using this
  have d2 : b ∣ D.natAbs := by have := Int.natAbs_dvd_natAbs.2 (Int.dvd_of_emod_eq_zero hb); simpa using this
  have d3 : c ∣ D.natAbs := by have := Int.natAbs_dvd_natAbs.2 (Int.dvd_of_emod_eq_zero hc); simpa using this
  have d4 : a * b ∣ D.natAbs := hab.mul_dvd_of_dvd_of_dvd d1 d2
  have d5 : a * b * c ∣ D.natAbs := (Nat.Coprime.mul_left hac hbc).mul_dvd_of_dvd_of_dvd d4 d3
  have := Nat.eq_zero_of_dvd_of_lt d5 hD
  omega
theorem moduli_coprime : Nat.Coprime 2305843009213693951 2305843009213693921 ∧ Nat.Coprime 2305843009213693951 2305843009213693907 ∧ Nat.Coprime 2305843009213693921 2305843009213693907 := by
  refine ⟨?_, ?_, ?_⟩ <;> decide +kernel
end CR

namespace Gp
open Gw Gq
theorem u64w {n : Nat} (h : n < 18446744073709551616) : Go.IntKind.wrap .u64 (n : Int) = n := by
  simp [Go.IntKind.wrap, Go.IntKind.bits, Go.IntKind.signed]; omega
theorem u64m (x : Int) : Go.IntKind.wrap .u64 x = x % 18446744073709551616 := by
  simp [Go.IntKind.wrap, Go.IntKind.bits, Go.IntKind.signed]
theorem bvN {n : Nat} : (BitVec.ofInt 64 (n : Int)).toNat = n % 18446744073709551616 := by
  rw [BitVec.toNat_ofInt]
  show ((n : Int) % ((2 ^ 64 : Nat) : Int)).toNat = _
  have : ((2 ^ 64 : Nat) : Int) = 18446744073709551616 := by decide
  rw [this]; omega
theorem shrW (a n : Nat) : shrV (a : Int) (n : Int) = ((a / 2 ^ n : Nat) : Int) := by
  unfold shrV
  rw [Int.toNat_natCast, Int.fdiv_eq_ediv_of_nonneg _ (by exact Int.le_of_lt (Int.pow_pos (by decide)))]
  simp
theorem sh32 (a : Nat) : shrV (a : Int) 32 = ((a / 4294967296 : Nat) : Int) := shrW a 32
theorem an32 {a : Nat} (ha : a < 18446744073709551616) : andV (a : Int) 4294967295 = ((a % 4294967296 : Nat) : Int) := by
  have e1 : (BitVec.ofInt 64 (4294967295 : Int)).toNat = 4294967295 := by decide
  unfold andV
  rw [BitVec.toNat_and, bvN, e1, Nat.mod_eq_of_lt ha, show 4294967295 = 2 ^ 32 - 1 by rfl, Nat.and_two_pow_sub_one_eq_mod, u64w (by have : a % 2 ^ 32 < 2 ^ 32 := Nat.mod_lt _ (by decide); omega)]
theorem mulN' (a b : Nat) : (a : Int) * (b : Int) = ((a * b : Nat) : Int) := (Int.natCast_mul a b).symm
theorem addN' (a b : Nat) : (a : Int) + (b : Int) = ((a + b : Nat) : Int) := (Int.natCast_add a b).symm
theorem mul64_eq {x y : Nat} (hx : x < 18446744073709551616) (hy : y < 18446744073709551616) : bits_Mul64 (x : Int) (y : Int) = some (((x * y / 18446744073709551616 : Nat) : Int), ((x * y % 18446744073709551616 : Nat) : Int)) := by
  obtain ⟨bd, bt, bw, hhi⟩ := Go.Lib.mul64_hi x y hx hy
  have ba := Go.Lib.half_mul_le (a := x / 4294967296) (b := y / 4294967296) (by omega) (by omega)
  have bb := Go.Lib.half_mul_le (a := x / 4294967296) (b := y % 4294967296) (by omega) (by omega)
  have bc := Go.Lib.half_mul_le (a := x % 4294967296) (b := y / 4294967296) (by omega) (by omega)
  unfold bits_Mul64
  simp only [sh32, an32 hx, an32 hy, mulN']
  rw [u64w (n := x / 4294967296 * (y / 4294967296)) (by omega), u64w (n := x / 4294967296 * (y % 4294967296)) (by omega), u64w (n := x % 4294967296 * (y % 4294967296)) (by omega), u64w (n := x % 4294967296 * (y / 4294967296)) (by omega)]
  simp only [sh32, addN']
  rw [u64w bt]
  simp only [sh32, an32 bt, addN']
  rw [u64w bw]
  simp only [sh32, addN']
  rw [u64w (n := x / 4294967296 * (y / 4294967296) + (x / 4294967296 * (y % 4294967296) + x % 4294967296 * (y % 4294967296) / 4294967296) / 4294967296) (by omega), addN', hhi, u64w (n := x * y / 18446744073709551616) (by have := Nat.div_lt_of_lt_mul (m := x * y) (n := 18446744073709551616) (k := 18446744073709551616) (Nat.mul_lt_mul'' hx hy); exact this), u64m]
  congr 2
set_option maxRecDepth 100000 in
theorem len61 {y : Nat} (h0 : 1152921504606846976 ≤ y) (h1 : y < 2305843009213693952) : bits_LeadingZeros64 (y : Int) = some 3 := by
  have hl : bits_Len64 (y : Int) = some 61 := by
    unfold bits_Len64
    rw [if_pos (decide_eq_true (by omega)), Option.bind_some]
    simp only
    rw [sh32, if_pos (decide_eq_true (by omega)), Option.bind_some]
    simp only
    have e16 : shrV ((y / 4294967296 : Nat) : Int) 16 = ((y / 4294967296 / 65536 : Nat) : Int) := shrW _ 16
    rw [e16, if_pos (decide_eq_true (by omega)), Option.bind_some]
    simp only
    have e8 : shrV ((y / 4294967296 / 65536 : Nat) : Int) 8 = ((y / 4294967296 / 65536 / 256 : Nat) : Int) := shrW _ 8
    rw [e8]
    have h3 : 16 ≤ y / 4294967296 / 65536 / 256 ∧ y / 4294967296 / 65536 / 256 < 32 := by omega
    generalize y / 4294967296 / 65536 / 256 = z at h3 ⊢
    have hz : z = 16 ∨ z = 17 ∨ z = 18 ∨ z = 19 ∨ z = 20 ∨ z = 21 ∨ z = 22 ∨ z = 23 ∨ z = 24 ∨ z = 25 ∨ z = 26 ∨ z = 27 ∨ z = 28 ∨ z = 29 ∨ z = 30 ∨ z = 31 := by omega
    rcases hz with h | h | h | h | h | h | h | h | h | h | h | h | h | h | h | h <;> subst h <;> decide +kernel
  unfold bits_LeadingZeros64
  rw [hl]; rfl
end Gp
set_option linter.unusedVariables false
set_option linter.unusedSimpArgs false
namespace Gp
open Gw Gq
theorem shl3 {a : Nat} : shlV (a : Int) 3 = ((a * 8 % 18446744073709551616 : Nat) : Int) := by
  unfold shlV
  rw [show ((3 : Int).toNat) = 3 by rfl, show ((2 : Int) ^ 3) = 8 by rfl, u64m]
  omega
theorem sh61 (a : Nat) : shrV (a : Int) 61 = ((a / 2305843009213693952 : Nat) : Int) := shrW a 61
theorem sh3 (a : Nat) : shrV (a : Int) 3 = ((a / 8 : Nat) : Int) := shrW a 3
theorem or3 {a b : Nat} (ha : a * 8 < 18446744073709551616) (hb : b < 8) : orV ((a * 8 : Nat) : Int) (b : Int) = ((a * 8 + b : Nat) : Int) := by
  unfold orV
  rw [BitVec.toNat_or, bvN, bvN, Nat.mod_eq_of_lt ha, Nat.mod_eq_of_lt (by omega)]
  have h := Nat.shiftLeft_add_eq_or_of_lt (i := 3) (b := b) hb a
  rw [Nat.shiftLeft_eq] at h
  have e : a * 8 ||| b = a * 8 + b := h.symm
  rw [e, u64w (by omega)]
theorem div_loop {V u u1 q r : Nat} (hV0 : 9223372036854775808 ≤ V) (hV1 : V < 18446744073709551616) (hu : u < V) (hu1 : u1 < 4294967296) (h : q * (V / 4294967296) + r = u) (hr : r < 4294967296) :
    q ≤ 4294967297 ∧ q * (V % 4294967296) < 18446744073709551616 ∧ 4294967296 * r + u1 < 18446744073709551616 ∧
    ((4294967296 ≤ q ∨ 4294967296 * r + u1 < q * (V % 4294967296)) → (u * 4294967296 + u1) / V < q ∧ (q - 1) * (V / 4294967296) + (r + V / 4294967296) = u ∧ (4294967296 ≤ r + V / 4294967296 → q - 1 ≤ (u * 4294967296 + u1) / V)) ∧
    (¬ (4294967296 ≤ q ∨ 4294967296 * r + u1 < q * (V % 4294967296)) → q ≤ (u * 4294967296 + u1) / V) := by
  have eV : V / 4294967296 * 4294967296 + V % 4294967296 = V := by rw [Nat.mul_comm]; exact Nat.div_add_mod V 4294967296
  generalize hv1 : V / 4294967296 = v1 at *
  generalize hv0 : V % 4294967296 = v0 at *
  have b1 : v1 < 4294967296 := by omega
  have b0 : v0 < 4294967296 := by omega
  have b2 : 4294967296 ≤ 2 * v1 := by omega
  have hq := KD.est_top (B := 4294967296) h (by omega) b0 b2
  have hm : q * v0 ≤ 4294967297 * 4294967295 := Nat.mul_le_mul hq (by omega)
  refine ⟨hq, by omega, by omega, fun ht => ?_, fun ht => ?_⟩
  · have g := KD.est_gt (B := 4294967296) h ht (by omega) hu1
    rw [eV] at g
    have hq0 : 0 < q := Nat.lt_of_le_of_lt (Nat.zero_le _) g
    obtain ⟨p, rfl⟩ : ∃ p, q = p + 1 := ⟨q - 1, by omega⟩
    have e2 : p * v1 + (r + v1) = u := by rw [Nat.add_mul, Nat.one_mul] at h; omega
    refine ⟨g, e2, fun hb => ?_⟩
    have hle := KD.est_le (B := 4294967296) (u1 := u1) (v0 := v0) e2 (by
      have h1 : p * v0 ≤ 4294967296 * 4294967295 := Nat.mul_le_mul (by omega) (by omega)
      have h2 : 4294967296 * 4294967296 ≤ 4294967296 * (r + v1) := Nat.mul_le_mul_left _ hb
      omega) (by omega)
    rw [eV] at hle
    exact hle
  · have hle := KD.est_le (B := 4294967296) (u1 := u1) (v0 := v0) h (by omega) (by omega)
    rw [eV] at hle
    exact hle
theorem div_l0 {V y lo u : Nat} (hV0 : 9223372036854775808 ≤ V) (hV1 : V < 18446744073709551616) (hy : shlV (y : Int) 3 = (V : Int)) (hu : u < V) {x : Nat} (hx : shlV (lo : Int) 3 = (x : Int)) (hx1 : x < 18446744073709551616) :
    ∀ (k q r : Nat), q * (V / 4294967296) + r = u → r < 4294967296 → (u * 4294967296 + x / 4294967296) / V ≤ q → q < k + (u * 4294967296 + x / 4294967296) / V → bits_Div64.l0 k (q : Int) (r : Int) (lo : Int) (y : Int) 3 = some (((u * 4294967296 + x / 4294967296) / V : Nat) : Int)
  | 0, q, r, h, hr, hQ, hk => by omega
  | k + 1, q, r, h, hr, hQ, hk => by
    obtain ⟨l1, l2, l3, l4, l5⟩ := div_loop hV0 hV1 hu (u1 := x / 4294967296) (by omega) h hr
    have ew : Go.IntKind.wrap .u64 3 = 3 := by decide
    have c1 : Go.IntKind.wrap .u64 ((q : Int) * andV (V : Int) 4294967295) = ((q * (V % 4294967296) : Nat) : Int) := by rw [an32 hV1, mulN', u64w l2]
    have c2 : Go.IntKind.wrap .u64 (Go.IntKind.wrap .u64 (4294967296 * (r : Int)) + shrV (x : Int) 32) = ((4294967296 * r + x / 4294967296 : Nat) : Int) := by
      rw [show (4294967296 : Int) = ((4294967296 : Nat) : Int) by rfl, mulN', u64w (by omega), sh32, addN', u64w l3]
    rw [bits_Div64.l0, ew, hy, hx, c1, c2]
    by_cases ht : 4294967296 ≤ q ∨ 4294967296 * r + x / 4294967296 < q * (V % 4294967296)
    · obtain ⟨g1, g2, g3⟩ := l4 ht
      have hq0 : 0 < q := Nat.lt_of_le_of_lt (Nat.zero_le _) g1
      have c3 : Go.IntKind.wrap .u64 ((r : Int) + shrV (V : Int) 32) = ((r + V / 4294967296 : Nat) : Int) := by rw [sh32, addN', u64w (by omega)]
      have c4 : Go.IntKind.wrap .u64 ((q : Int) - 1) = ((q - 1 : Nat) : Int) := by rw [show (q : Int) - 1 = ((q - 1 : Nat) : Int) by omega, u64w (by omega)]
      rw [if_pos (by rw [Bool.or_eq_true, decide_eq_true_eq, decide_eq_true_eq]; omega), c3, c4]
      by_cases hb : 4294967296 ≤ r + V / 4294967296
      · rw [if_pos (decide_eq_true (by omega))]
        rw [Nat.le_antisymm (g3 hb) (Nat.le_sub_one_of_lt g1)]
      · rw [if_neg (by rw [decide_eq_true_eq]; omega)]
        exact div_l0 hV0 hV1 hy hu hx hx1 k (q - 1) _ g2 (by omega) (by omega) (by omega)
    · rw [if_neg (by rw [Bool.or_eq_true, decide_eq_true_eq, decide_eq_true_eq]; omega)]
      rw [Nat.le_antisymm (l5 ht) hQ]
theorem div_l1 {V y lo u : Nat} (hV0 : 9223372036854775808 ≤ V) (hV1 : V < 18446744073709551616) (hy : shlV (y : Int) 3 = (V : Int)) (hu : u < V) {x : Nat} (hx : shlV (lo : Int) 3 = (x : Int)) (hx1 : x < 18446744073709551616) :
    ∀ (k q r : Nat), q * (V / 4294967296) + r = u → r < 4294967296 → (u * 4294967296 + x % 4294967296) / V ≤ q → q < k + (u * 4294967296 + x % 4294967296) / V → bits_Div64.l1 k (r : Int) (q : Int) (lo : Int) (y : Int) 3 = some (((u * 4294967296 + x % 4294967296) / V : Nat) : Int)
  | 0, q, r, h, hr, hQ, hk => by omega
  | k + 1, q, r, h, hr, hQ, hk => by
    obtain ⟨l1, l2, l3, l4, l5⟩ := div_loop hV0 hV1 hu (u1 := x % 4294967296) (by omega) h hr
    have ew : Go.IntKind.wrap .u64 3 = 3 := by decide
    have c1 : Go.IntKind.wrap .u64 ((q : Int) * andV (V : Int) 4294967295) = ((q * (V % 4294967296) : Nat) : Int) := by rw [an32 hV1, mulN', u64w l2]
    have c2 : Go.IntKind.wrap .u64 (Go.IntKind.wrap .u64 (4294967296 * (r : Int)) + andV (x : Int) 4294967295) = ((4294967296 * r + x % 4294967296 : Nat) : Int) := by
      rw [show (4294967296 : Int) * (r : Int) = ((4294967296 * r : Nat) : Int) from mulN' 4294967296 r, u64w (by omega), an32 hx1, addN', u64w l3]
    rw [bits_Div64.l1, ew, hy, hx, c1, c2]
    by_cases ht : 4294967296 ≤ q ∨ 4294967296 * r + x % 4294967296 < q * (V % 4294967296)
    · obtain ⟨g1, g2, g3⟩ := l4 ht
      have hq0 : 0 < q := Nat.lt_of_le_of_lt (Nat.zero_le _) g1
      have c3 : Go.IntKind.wrap .u64 ((r : Int) + shrV (V : Int) 32) = ((r + V / 4294967296 : Nat) : Int) := by rw [sh32, addN', u64w (by omega)]
      have c4 : Go.IntKind.wrap .u64 ((q : Int) - 1) = ((q - 1 : Nat) : Int) := by rw [show (q : Int) - 1 = ((q - 1 : Nat) : Int) by omega, u64w (by omega)]
      rw [if_pos (by rw [Bool.or_eq_true, decide_eq_true_eq, decide_eq_true_eq]; omega), c3, c4]
      by_cases hb : 4294967296 ≤ r + V / 4294967296
      · rw [if_pos (decide_eq_true (by omega))]
        rw [Nat.le_antisymm (g3 hb) (Nat.le_sub_one_of_lt g1)]
      · rw [if_neg (by rw [decide_eq_true_eq]; omega)]
        exact div_l1 hV0 hV1 hy hu hx hx1 k (q - 1) _ g2 (by omega) (by omega) (by omega)
    · rw [if_neg (by rw [Bool.or_eq_true, decide_eq_true_eq, decide_eq_true_eq]; omega)]
      rw [Nat.le_antisymm (l5 ht) hQ]
end Gp
set_option linter.unusedVariables false
set_option linter.unusedSimpArgs false
namespace Gp
open Gw Gq
theorem u64sub {a b c d : Nat} (h : a * 4294967296 + b = c + d) (hd : d < 18446744073709551616) : Go.IntKind.wrap .u64 (Go.IntKind.wrap .u64 (Go.IntKind.wrap .u64 ((a : Int) * 4294967296) + (b : Int)) - Go.IntKind.wrap .u64 (c : Int)) = (d : Int) := by
  rw [u64m, u64m, u64m, u64m]
  omega
theorem div_fin {hi lo u x P1 P0 U R : Nat} (hu : u = hi * 8 + lo / 2305843009213693952) (hx : x = lo * 8 % 18446744073709551616) (d1 : u * 4294967296 + x / 4294967296 = P1 + U) (d2 : U * 4294967296 + x % 4294967296 = P0 + R) : (hi * 18446744073709551616 + lo) * 8 = P1 * 4294967296 + P0 + R := by omega
theorem u64est {u v q : Nat} (hu : u < 18446744073709551616) : Go.IntKind.wrap .u64 (Int.tdiv (u : Int) (v : Int)) = ((u / v : Nat) : Int) ∧ Go.IntKind.wrap .u64 ((u : Int) - Go.IntKind.wrap .u64 (((u / v : Nat) : Int) * (v : Int))) = ((u % v : Nat) : Int) := by
  have h1 : Int.tdiv (u : Int) (v : Int) = ((u / v : Nat) : Int) := rfl
  have h2 : u / v ≤ u := Nat.div_le_self _ _
  have h3 : u / v * v ≤ u := Nat.div_mul_le_self _ _
  have h4 := Nat.div_add_mod u v
  rw [Nat.mul_comm] at h4
  refine ⟨by rw [h1, u64w (by omega)], ?_⟩
  rw [mulN', u64w (by omega), show (u : Int) - ((u / v * v : Nat) : Int) = ((u % v : Nat) : Int) by omega, u64w (by have := Nat.mod_le u v; omega)]
set_option maxRecDepth 10000 in
theorem div64_eq {hi lo y : Nat} (h0 : 1152921504606846976 ≤ y) (h1 : y < 2305843009213693952) (hhi : hi < y) (hlo : lo < 18446744073709551616) {k : Nat} (hk : 4294967300 < k) : ∃ q, bits_Div64 k (hi : Int) (lo : Int) (y : Int) = some (q, (((hi * 18446744073709551616 + lo) % y : Nat) : Int)) := by
  unfold bits_Div64
  rw [if_neg (by rw [beq_iff_eq]; omega), if_neg (by rw [decide_eq_true_eq]; omega)]
  by_cases hz : hi = 0
  · subst hz
    rw [if_pos (by decide), if_pos (by omega)]
    refine ⟨Go.IntKind.wrap .u64 (Int.tdiv (lo : Int) (y : Int)), ?_⟩
    rw [Nat.zero_mul, Nat.zero_add]
    rfl
  · rw [if_neg (by rw [beq_iff_eq]; omega), len61 h0 h1, Option.bind_some]
    have e3 : Go.IntKind.wrap .u64 3 = 3 := by decide
    have e61 : Go.IntKind.wrap .u64 (64 - 3) = 61 := by decide
    obtain ⟨V, hV⟩ : ∃ V, V = y * 8 := ⟨_, rfl⟩
    obtain ⟨x, hx⟩ : ∃ x, x = lo * 8 % 18446744073709551616 := ⟨_, rfl⟩
    obtain ⟨u, hu⟩ : ∃ u, u = hi * 8 + lo / 2305843009213693952 := ⟨_, rfl⟩
    have sy : shlV (y : Int) 3 = (V : Int) := by rw [shl3, Nat.mod_eq_of_lt (by omega), hV]
    have sl : shlV (lo : Int) 3 = (x : Int) := by rw [shl3, hx]
    have su : orV (shlV (hi : Int) 3) (shrV (lo : Int) 61) = (u : Int) := by rw [shl3, Nat.mod_eq_of_lt (by omega), sh61, or3 (by omega) (by omega), hu]
    have hx1 : x < 18446744073709551616 := by omega
    have hV0 : 9223372036854775808 ≤ V := by omega
    have hV1 : V < 18446744073709551616 := by omega
    have huV : u < V := by omega
    rw [e3, e61, if_pos (by decide), if_pos (by decide), sy, sl, su, sh32, if_pos (by omega)]
    obtain ⟨a1, a2⟩ := u64est (u := u) (v := V / 4294967296) (q := 0) (by omega)
    rw [a1, a2]
    have em : u / (V / 4294967296) * (V / 4294967296) + u % (V / 4294967296) = u := by rw [Nat.mul_comm]; exact Nat.div_add_mod _ _
    have hr : u % (V / 4294967296) < 4294967296 := Nat.lt_of_lt_of_le (Nat.mod_lt _ (by omega)) (by omega)
    have eV : V / 4294967296 * 4294967296 + V % 4294967296 = V := by rw [Nat.mul_comm]; exact Nat.div_add_mod V 4294967296
    have hQ := KD.est_0 (B := 4294967296) (v1 := V / 4294967296) (v0 := V % 4294967296) (u32 := u) (u1 := x / 4294967296) (by omega) (by omega)
    rw [eV] at hQ
    have hq1 := (div_loop hV0 hV1 huV (u1 := x / 4294967296) (by omega) em hr).1
    rw [div_l0 hV0 hV1 sy huV sl hx1 k _ _ em hr hQ (Nat.lt_of_lt_of_le (Nat.lt_of_le_of_lt hq1 (by omega)) (Nat.le_add_right _ _)), Option.bind_some]
    obtain ⟨Q1, hQ1⟩ : ∃ Q, Q = (u * 4294967296 + x / 4294967296) / V := ⟨_, rfl⟩
    obtain ⟨U, hU⟩ : ∃ U, U = (u * 4294967296 + x / 4294967296) % V := ⟨_, rfl⟩
    have d1 : u * 4294967296 + x / 4294967296 = Q1 * V + U := by rw [hQ1, hU, Nat.mul_comm _ V]; exact (Nat.div_add_mod _ _).symm
    have hUV : U < V := by rw [hU]; exact Nat.mod_lt _ (by omega)
    rw [← hQ1, sh32, mulN' Q1 V, u64sub d1 (by omega)]
    obtain ⟨b1, b2⟩ := u64est (u := U) (v := V / 4294967296) (q := 0) (by omega)
    rw [b1, b2]
    have em2 : U / (V / 4294967296) * (V / 4294967296) + U % (V / 4294967296) = U := by rw [Nat.mul_comm]; exact Nat.div_add_mod _ _
    have hr2 : U % (V / 4294967296) < 4294967296 := Nat.lt_of_lt_of_le (Nat.mod_lt _ (by omega)) (by omega)
    have hQ2 := KD.est_0 (B := 4294967296) (v1 := V / 4294967296) (v0 := V % 4294967296) (u32 := U) (u1 := x % 4294967296) (by omega) (by omega)
    rw [eV] at hQ2
    have hq2 := (div_loop hV0 hV1 hUV (u1 := x % 4294967296) (by omega) em2 hr2).1
    rw [div_l1 hV0 hV1 sy hUV sl hx1 k _ _ em2 hr2 hQ2 (Nat.lt_of_lt_of_le (Nat.lt_of_le_of_lt hq2 (by omega)) (Nat.le_add_right _ _)), Option.bind_some]
    obtain ⟨Q0, hQ0⟩ : ∃ Q, Q = (U * 4294967296 + x % 4294967296) / V := ⟨_, rfl⟩
    obtain ⟨R, hR⟩ : ∃ R, R = (U * 4294967296 + x % 4294967296) % V := ⟨_, rfl⟩
    have d2 : U * 4294967296 + x % 4294967296 = Q0 * V + R := by rw [hQ0, hR, Nat.mul_comm _ V]; exact (Nat.div_add_mod _ _).symm
    have hRV : R < V := by rw [hR]; exact Nat.mod_lt _ (by omega)
    rw [← hQ0, an32 hx1, mulN' Q0 V, u64sub d2 (by omega), sh3]
    refine ⟨_, congrArg some (Prod.ext rfl ?_)⟩
    show ((R / 8 : Nat) : Int) = _
    congr 1
    have e8 : (hi * 18446744073709551616 + lo) * 8 = (Q1 * 4294967296 + Q0) * V + R := by
      have f1 : (Q1 * 4294967296 + Q0) * V = Q1 * V * 4294967296 + Q0 * V := by rw [Nat.add_mul, Nat.mul_right_comm]
      rw [f1]
      exact div_fin hu hx d1 d2
    have m8 : (hi * 18446744073709551616 + lo) * 8 % (y * 8) = R := by
      rw [e8, hV, Nat.add_comm, Nat.add_mul_mod_self_right, Nat.mod_eq_of_lt (by omega)]
    rw [Nat.mul_mod_mul_right] at m8
    omega
end Gp
set_option linter.unusedVariables false
set_option linter.unusedSimpArgs false
namespace Gp
open Gw Gq
def okM (m : Nat) : Prop := 1152921504606846976 ≤ m ∧ m < 2305843009213693952
theorem prod_l0 {m : Nat} (hm : okM m) (l : List Int) (hl : ∀ x ∈ l, -1000000 ≤ x ∧ x ≤ 1000000) (hlen : l.length ≤ 1000) : ∀ (d i k : Nat) (s : Int) (o : Nat) (P : Int), i + d = l.length → d + 4294967300 < k → (s = 1 ∨ s = -1) → o < m → (m : Int) ∣ P - s * o →
    ∃ s' o', weight_product.l0 k s (o : Int) i m l = some (s', ((o' : Nat) : Int)) ∧ (s' = 1 ∨ s' = -1) ∧ o' < m ∧ (m : Int) ∣ (l.drop i).foldl (· * ·) P - s' * o'
  | 0, i, k, s, o, P, e, hk, hs, ho, hd => by
    obtain ⟨k, rfl⟩ : ∃ m, k = m + 1 := ⟨k - 1, by omega⟩
    refine ⟨s, o, by rw [weight_product.l0, if_neg (by simp; omega)], hs, ho, ?_⟩
    rw [List.drop_of_length_le (by omega)]; exact hd
  | d + 1, i, k, s, o, P, e, hk, hs, ho, hd => by
    obtain ⟨k, rfl⟩ : ∃ m, k = m + 1 := ⟨k - 1, by omega⟩
    have hlt : i < l.length := by omega
    have hwx : w64 ((i : Int) + 1) = ((i + 1 : Nat) : Int) := by rw [w64_id (by omega) (by omega)]; rfl
    obtain ⟨m1, m2⟩ := hm
    obtain ⟨b0, b1⟩ := hl l[i] (List.getElem_mem hlt)
    obtain ⟨y, hy⟩ : ∃ y : Nat, maxI l[i] (w64 (0 - l[i])) = y ∧ y ≤ 1000000 ∧ (l[i] = y ∨ l[i] = -(y : Int)) ∧ (l[i] < 0 → l[i] = -(y : Int)) ∧ (¬ l[i] < 0 → l[i] = y) := by
      rw [w64_id (by omega) (by omega)]
      refine ⟨(maxI l[i] (0 - l[i])).toNat, ?_⟩
      unfold maxI
      split <;> omega
    obtain ⟨y1, y2, -, y3, y4⟩ := hy
    have ey : Int.tmod (Go.IntKind.wrap .u64 (y : Int)) (m : Int) = (y : Int) := by
      rw [u64w (by omega)]
      show ((y % m : Nat) : Int) = _
      rw [Nat.mod_eq_of_lt (by omega)]
    have hoy : o * y < m * 1000001 := Nat.mul_lt_mul_of_lt_of_le ho (by omega) (by omega)
    have hhi : o * y / 18446744073709551616 < m := by omega
    have eh : Int.tmod ((o * y / 18446744073709551616 : Nat) : Int) (m : Int) = ((o * y / 18446744073709551616 : Nat) : Int) := by
      show ((o * y / 18446744073709551616 % m : Nat) : Int) = _
      rw [Nat.mod_eq_of_lt hhi]
    obtain ⟨q, hq⟩ := div64_eq (hi := o * y / 18446744073709551616) (lo := o * y % 18446744073709551616) m1 m2 hhi (by omega) (k := k) (by omega)
    have en : o * y / 18446744073709551616 * 18446744073709551616 + o * y % 18446744073709551616 = o * y := by rw [Nat.mul_comm]; exact Nat.div_add_mod _ _
    rw [en] at hq
    have step : ∀ s2 : Int, (s2 = 1 ∨ s2 = -1) → s2 * (y : Int) = s * l[i] → ∃ s' o', weight_product.l0 k s2 ((o * y % m : Nat) : Int) ((i + 1 : Nat) : Int) m l = some (s', ((o' : Nat) : Int)) ∧ (s' = 1 ∨ s' = -1) ∧ o' < m ∧ (m : Int) ∣ (l.drop i).foldl (· * ·) P - s' * o' := fun s2 h2 h3 => by
      have hd2 : (m : Int) ∣ P * l[i] - s2 * ((o * y % m : Nat) : Int) := by
        obtain ⟨c, hc⟩ := hd
        have h4 := Nat.div_add_mod (o * y) m
        have h5 : ((o * y % m : Nat) : Int) = (o : Int) * (y : Int) - (m : Int) * ((o * y / m : Nat) : Int) := by
          have := congrArg (fun n : Nat => (n : Int)) h4
          simp only [Int.natCast_add, Int.natCast_mul] at this
          omega
        refine ⟨c * l[i] + s2 * ((o * y / m : Nat) : Int), ?_⟩
        have h6 : P = s * (o : Int) + (m : Int) * c := by omega
        rw [h5, h6]
        generalize ((o * y / m : Nat) : Int) = z at *
        generalize (y : Int) = yy at *
        generalize l[i] = li at *
        generalize (o : Int) = oo at *
        generalize (m : Int) = mm at *
        grind
      obtain ⟨s', o', e1, e2, e3, e4⟩ := prod_l0 ⟨m1, m2⟩ l hl hlen d (i + 1) k s2 (o * y % m) (P * l[i]) (by omega) (by omega) h2 (Nat.mod_lt _ (by omega)) hd2
      exact ⟨s', o', e1, e2, e3, by rw [List.drop_eq_getElem_cons hlt]; exact e4⟩
    rw [weight_product.l0, if_pos (by simpa using hlt), if_pos (by omega), if_pos (by omega), rdD_get hlt, y1, ey, hwx]
    by_cases hneg : l[i] < 0
    · have y3 := y3 hneg
      rw [if_pos (decide_eq_true hneg), Option.bind_some, mul64_eq (by omega) (by omega), Option.bind_some]
      simp only
      rw [eh, hq, Option.bind_some]
      rcases hs with rfl | rfl
      · exact step (-1) (.inr rfl) (by rw [y3]; omega)
      · exact step 1 (.inl rfl) (by rw [y3]; omega)
    · have y4 := y4 hneg
      rw [if_neg (by rw [decide_eq_true_eq]; exact hneg), Option.bind_some, mul64_eq (by omega) (by omega), Option.bind_some]
      simp only
      rw [eh, hq, Option.bind_some]
      exact step s hs (by rw [y4])
theorem prod_eq {m : Nat} (hm : okM m) (l : List Int) (hl : ∀ x ∈ l, -1000000 ≤ x ∧ x ≤ 1000000) (hlen : l.length ≤ 1000) {s : Int} (hs : s = 1 ∨ s = -1) {k : Nat} (hk : 4294970000 < k) : ∃ r : Nat, weight_product k m s l = some (r : Int) ∧ r < m ∧ (m : Int) ∣ l.foldl (· * ·) s - r := by
  obtain ⟨m1, m2⟩ := hm
  obtain ⟨s', o', e1, e2, e3, e4⟩ := prod_l0 ⟨m1, m2⟩ l hl hlen l.length 0 k s 1 s (by omega) (by omega) hs (by omega) (by rw [show s - s * ((1 : Nat) : Int) = 0 by omega]; exact Int.dvd_zero _)
  have e1 : weight_product.l0 k s 1 0 m l = some (s', ((o' : Nat) : Int)) := e1
  rw [List.drop_zero] at e4
  unfold weight_product
  rw [e1, Option.bind_some]
  simp only
  rcases e2 with rfl | rfl
  · exact ⟨o', by rw [if_neg (by simp)]; rfl, e3, by rwa [Int.one_mul] at e4⟩
  · by_cases h0 : o' = 0
    · subst h0
      exact ⟨0, by rw [if_neg (by simp)]; rfl, by omega, by simpa using e4⟩
    · refine ⟨m - o', ?_, by omega, ?_⟩
      · rw [if_pos (by simp; omega), show (m : Int) - (o' : Int) = ((m - o' : Nat) : Int) by omega, u64w (by omega)]; rfl
      · obtain ⟨c, hc⟩ := e4
        refine ⟨c - 1, ?_⟩
        rw [Int.mul_sub, ← hc]
        omega
end Gp
set_option linter.unusedVariables false
set_option linter.unusedSimpArgs false
namespace Gp
open Gw Gq
def okF (f : Frac) : Prop := (-1000000 ≤ f.Num ∧ f.Num ≤ 1000000) ∧ 1 ≤ f.Den ∧ f.Den ≤ 1000000
def balD (f s w n e : Frac) : Int := f.Num * s.Num * w.Den * n.Den * e.Den + w.Num * f.Den * s.Den * n.Den * e.Den - n.Num * f.Den * s.Den * w.Den * e.Den - e.Num * f.Den * s.Den * w.Den * n.Den
theorem bal_sum {m : Nat} (hm : okM m) {a b : Nat} (ha : a < m) (hb : b < m) : Int.tmod (Go.IntKind.wrap .u64 ((a : Int) + (b : Int))) (m : Int) = (((a + b) % m : Nat) : Int) := by
  obtain ⟨m1, m2⟩ := hm
  rw [addN', u64w (by omega)]; rfl
theorem bal_l1 {m : Nat} (hm : okM m) {x : Int} (hx : getI [2305843009213693951, 2305843009213693921, 2305843009213693907] x = (m : Int)) {a b c d : Nat} (ha : a < m) (hb : b < m) (hc : c < m) (hd : d < m) (k : Nat) :
    weight_balanced.l1 (k + 5) 0 0 x a b c d = some (((((((0 + a) % m + b) % m + c) % m + d) % m : Nat)) : Int) := by
  have hm0 : (m : Int) ≠ 0 := by have := hm.1; omega
  have lt : ∀ z : Nat, z % m < m := fun z => Nat.mod_lt _ (by have := hm.1; omega)
  have w1 : w64 ((0 : Int) + 1) = 1 := by decide
  have w2 : w64 ((1 : Int) + 1) = 2 := by decide
  have w3 : w64 ((2 : Int) + 1) = 3 := by decide
  have w4 : w64 ((3 : Int) + 1) = 4 := by decide
  have s1 : Int.tmod (Go.IntKind.wrap .u64 (0 + (a : Int))) (m : Int) = (((0 + a) % m : Nat) : Int) := bal_sum hm (a := 0) (by have := hm.1; omega) ha
  have len : ([(a : Int), b, c, d].length : Int) = 4 := rfl
  rw [weight_balanced.l1, len, if_pos (by decide), if_pos (by decide), hx, if_pos hm0, w1, show rdD [(a : Int), b, c, d] 0 0 = (a : Int) by rfl, s1]
  rw [weight_balanced.l1, len, if_pos (by decide), if_pos (by decide), hx, if_pos hm0, w2, show rdD [(a : Int), b, c, d] 1 0 = (b : Int) by rfl, bal_sum hm (lt _) hb]
  rw [weight_balanced.l1, len, if_pos (by decide), if_pos (by decide), hx, if_pos hm0, w3, show rdD [(a : Int), b, c, d] 2 0 = (c : Int) by rfl, bal_sum hm (lt _) hc]
  rw [weight_balanced.l1, len, if_pos (by decide), if_pos (by decide), hx, if_pos hm0, w4, show rdD [(a : Int), b, c, d] 3 0 = (d : Int) by rfl, bal_sum hm (lt _) hd]
  rw [weight_balanced.l1, len, if_neg (by decide)]
theorem mem5 {a b c d e : Int} (h : (-1000000 ≤ a ∧ a ≤ 1000000) ∧ (-1000000 ≤ b ∧ b ≤ 1000000) ∧ (-1000000 ≤ c ∧ c ≤ 1000000) ∧ (-1000000 ≤ d ∧ d ≤ 1000000) ∧ (-1000000 ≤ e ∧ e ≤ 1000000)) : ∀ x ∈ [a, b, c, d, e], -1000000 ≤ x ∧ x ≤ 1000000 := by
  intro x hx
  simp only [List.mem_cons, List.not_mem_nil, or_false] at hx
  rcases hx with rfl | rfl | rfl | rfl | rfl <;> omega
theorem mod_dvd {m : Nat} (x : Nat) : (m : Int) ∣ (x : Int) - ((x % m : Nat) : Int) := ⟨((x / m : Nat) : Int), by
  have := congrArg (fun n : Nat => (n : Int)) (Nat.div_add_mod x m)
  simp only [Int.natCast_add, Int.natCast_mul] at this
  omega⟩
end Gp
set_option linter.unusedVariables false
set_option linter.unusedSimpArgs false
namespace Gp
open Gw Gq
theorem bal_round {f s w n e : Frac} (hf : okF f) (hs : okF s) (hw : okF w) (hn : okF n) (he : okF e) {m : Nat} (hm : okM m) {x : Int} (h0 : 0 ≤ x ∧ x < 3) (hx : getI [2305843009213693951, 2305843009213693921, 2305843009213693907] x = (m : Int)) {k : Nat} (hk : 4294970010 < k) :
    ((m : Int) ∣ balD f s w n e → weight_balanced.l0 (k + 1) x f s w n e = weight_balanced.l0 k (w64 (x + 1)) f s w n e) ∧ (¬ (m : Int) ∣ balD f s w n e → weight_balanced.l0 (k + 1) x f s w n e = some (.inl false)) := by
  obtain ⟨⟨f1, f2⟩, f3, f4⟩ := hf
  obtain ⟨⟨s1, s2⟩, s3, s4⟩ := hs
  obtain ⟨⟨w1, w2⟩, w3, w4⟩ := hw
  obtain ⟨⟨n1, n2⟩, n3, n4⟩ := hn
  obtain ⟨⟨e1, e2⟩, e3, e4⟩ := he
  obtain ⟨a, p1, p2, p3⟩ := prod_eq hm [f.Num, s.Num, w.Den, n.Den, e.Den] (mem5 (by omega)) (by simp) (.inl rfl) (k := k) (by omega)
  obtain ⟨b, q1, q2, q3⟩ := prod_eq hm [w.Num, f.Den, s.Den, n.Den, e.Den] (mem5 (by omega)) (by simp) (.inl rfl) (k := k) (by omega)
  obtain ⟨c, r1, r2, r3⟩ := prod_eq hm [n.Num, f.Den, s.Den, w.Den, e.Den] (mem5 (by omega)) (by simp) (.inr rfl) (k := k) (by omega)
  obtain ⟨d, t1, t2, t3⟩ := prod_eq hm [e.Num, f.Den, s.Den, w.Den, n.Den] (mem5 (by omega)) (by simp) (.inr rfl) (k := k) (by omega)
  obtain ⟨k', rfl⟩ : ∃ k', k = k' + 5 := ⟨k - 5, by omega⟩
  have l1 := bal_l1 hm hx p2 q2 r2 t2 k'
  have hlt : ((((0 + a) % m + b) % m + c) % m + d) % m < m := Nat.mod_lt _ (by have := hm.1; omega)
  obtain ⟨z, hz⟩ : ∃ z, z = ((((0 + a) % m + b) % m + c) % m + d) % m := ⟨_, rfl⟩
  have hdv : (m : Int) ∣ balD f s w n e - (z : Int) := by
    have g1 := mod_dvd (m := m) (0 + a)
    have g2 := mod_dvd (m := m) ((0 + a) % m + b)
    have g3 := mod_dvd (m := m) (((0 + a) % m + b) % m + c)
    have g4 := mod_dvd (m := m) ((((0 + a) % m + b) % m + c) % m + d)
    rw [← hz] at g4
    have g := Int.dvd_add (Int.dvd_add (Int.dvd_add (Int.dvd_add p3 q3) (Int.dvd_add r3 t3)) (Int.dvd_add g1 g2)) (Int.dvd_add g3 g4)
    refine (Int.dvd_iff_dvd_of_dvd_sub ?_).1 g
    have f1' : [f.Num, s.Num, w.Den, n.Den, e.Den].foldl (· * ·) 1 = f.Num * s.Num * w.Den * n.Den * e.Den := by simp only [List.foldl, Int.one_mul]
    have f2' : [w.Num, f.Den, s.Den, n.Den, e.Den].foldl (· * ·) 1 = w.Num * f.Den * s.Den * n.Den * e.Den := by simp only [List.foldl, Int.one_mul]
    have f3' : [n.Num, f.Den, s.Den, w.Den, e.Den].foldl (· * ·) (-1) = -(n.Num * f.Den * s.Den * w.Den * e.Den) := by simp only [List.foldl, Int.neg_mul, Int.one_mul]
    have f4' : [e.Num, f.Den, s.Den, w.Den, n.Den].foldl (· * ·) (-1) = -(e.Num * f.Den * s.Den * w.Den * n.Den) := by simp only [List.foldl, Int.neg_mul, Int.one_mul]
    rw [f1', f2', f3', f4']
    refine ⟨0, ?_⟩
    unfold balD
    simp only [Int.natCast_add]
    generalize f.Num * s.Num * w.Den * n.Den * e.Den = A1
    generalize w.Num * f.Den * s.Den * n.Den * e.Den = A2
    generalize n.Num * f.Den * s.Den * w.Den * e.Den = A3
    generalize e.Num * f.Den * s.Den * w.Den * n.Den = A4
    generalize (((0 + a) % m : Nat) : Int) = x1
    generalize ((((0 + a) % m + b) % m : Nat) : Int) = x2
    generalize (((((0 + a) % m + b) % m + c) % m : Nat) : Int) = x3
    clear p1 q1 r1 t1 l1 hlt g g1 g2 g3 g4 p3 q3 r3 t3
    omega
  have hiff : (m : Int) ∣ balD f s w n e ↔ z = 0 := by
    constructor
    · intro h
      have h2 : (m : Int) ∣ (z : Int) := by have := Int.dvd_sub h hdv; rwa [show balD f s w n e - (balD f s w n e - (z : Int)) = (z : Int) by omega] at this
      have h3 : m ∣ z := Int.natCast_dvd_natCast.1 h2
      exact Nat.eq_zero_of_dvd_of_lt h3 (by omega)
    · intro h
      subst h
      simpa using hdv
  have hstep : weight_balanced.l0 (k' + 5 + 1) x f s w n e = if ((z : Int) != 0) = true then some (.inl false) else weight_balanced.l0 (k' + 5) (w64 (x + 1)) f s w n e := by
    rw [weight_balanced.l0, if_pos (by simp; omega), if_pos h0, hx, p1, Option.bind_some, q1, Option.bind_some, r1, Option.bind_some, t1, Option.bind_some, l1, Option.bind_some, hz]
  rw [hstep, hiff]
  refine ⟨fun h => by rw [if_neg (by rw [h]; decide)], fun h => by rw [if_pos (by simpa using h)]⟩
end Gp
set_option linter.unusedVariables false
set_option linter.unusedSimpArgs false
namespace Gp
open Gw Gq
theorem abs5 {a b c d e : Int} (h : (-1000000 ≤ a ∧ a ≤ 1000000) ∧ (-1000000 ≤ b ∧ b ≤ 1000000) ∧ (-1000000 ≤ c ∧ c ≤ 1000000) ∧ (-1000000 ≤ d ∧ d ≤ 1000000) ∧ (-1000000 ≤ e ∧ e ≤ 1000000)) : (a * b * c * d * e).natAbs ≤ 1000000000000000000000000000000 := by
  rw [Int.natAbs_mul, Int.natAbs_mul, Int.natAbs_mul, Int.natAbs_mul]
  have h1 : a.natAbs * b.natAbs ≤ 1000000 * 1000000 := Nat.mul_le_mul (by omega) (by omega)
  have h2 := Nat.mul_le_mul h1 (show c.natAbs ≤ 1000000 by omega)
  have h3 := Nat.mul_le_mul h2 (show d.natAbs ≤ 1000000 by omega)
  exact Nat.mul_le_mul h3 (show e.natAbs ≤ 1000000 by omega)
theorem balD_abs {f s w n e : Frac} (hf : okF f) (hs : okF s) (hw : okF w) (hn : okF n) (he : okF e) : (balD f s w n e).natAbs ≤ 4000000000000000000000000000000 := by
  obtain ⟨⟨f1, f2⟩, f3, f4⟩ := hf
  obtain ⟨⟨s1, s2⟩, s3, s4⟩ := hs
  obtain ⟨⟨w1, w2⟩, w3, w4⟩ := hw
  obtain ⟨⟨n1, n2⟩, n3, n4⟩ := hn
  obtain ⟨⟨e1, e2⟩, e3, e4⟩ := he
  have g1 := abs5 (a := f.Num) (b := s.Num) (c := w.Den) (d := n.Den) (e := e.Den) (by omega)
  have g2 := abs5 (a := w.Num) (b := f.Den) (c := s.Den) (d := n.Den) (e := e.Den) (by omega)
  have g3 := abs5 (a := n.Num) (b := f.Den) (c := s.Den) (d := w.Den) (e := e.Den) (by omega)
  have g4 := abs5 (a := e.Num) (b := f.Den) (c := s.Den) (d := w.Den) (e := n.Den) (by omega)
  unfold balD
  generalize f.Num * s.Num * w.Den * n.Den * e.Den = A1 at g1 ⊢
  generalize w.Num * f.Den * s.Den * n.Den * e.Den = A2 at g2 ⊢
  generalize n.Num * f.Den * s.Den * w.Den * e.Den = A3 at g3 ⊢
  generalize e.Num * f.Den * s.Den * w.Den * n.Den = A4 at g4 ⊢
  have hb4 : (A1 + A2 - A3 - A4).natAbs ≤ 4000000000000000000000000000000 := by
    omega
  exact hb4
theorem balanced_eq {f s w n e : Frac} (hf : okF f) (hs : okF s) (hw : okF w) (hn : okF n) (he : okF e) {k : Nat} (hk : 4294970020 < k) : weight_balanced k f s w n e = some (decide (balD f s w n e = 0)) := by
  obtain ⟨k, rfl⟩ : ∃ k', k = k' + 4 := ⟨k - 4, by omega⟩
  obtain ⟨a1, a2⟩ := bal_round hf hs hw hn he (m := 2305843009213693951) ⟨by omega, by omega⟩ (x := 0) (by omega) rfl (k := k + 3) (by omega)
  obtain ⟨b1, b2⟩ := bal_round hf hs hw hn he (m := 2305843009213693921) ⟨by omega, by omega⟩ (x := 1) (by omega) rfl (k := k + 2) (by omega)
  obtain ⟨c1, c2⟩ := bal_round hf hs hw hn he (m := 2305843009213693907) ⟨by omega, by omega⟩ (x := 2) (by omega) rfl (k := k + 1) (by omega)
  have w1 : w64 ((0 : Int) + 1) = 1 := by decide
  have w2 : w64 ((1 : Int) + 1) = 2 := by decide
  have w3 : w64 ((2 : Int) + 1) = 3 := by decide
  rw [w1] at a1
  rw [w2] at b1
  rw [w3] at c1
  have fin : weight_balanced.l0 (k + 1) 3 f s w n e = some (.inr ()) := by rw [weight_balanced.l0, if_neg (by decide)]
  have no : ∀ m : Nat, ¬ (m : Int) ∣ balD f s w n e → decide (balD f s w n e = 0) = false := fun m h => decide_eq_false fun h0 => h (by rw [h0]; exact Int.dvd_zero _)
  unfold weight_balanced
  by_cases ha : ((2305843009213693951 : Nat) : Int) ∣ balD f s w n e
  rotate_left
  · rw [a2 ha, no _ ha]; rfl
  rw [a1 ha]
  by_cases hb : ((2305843009213693921 : Nat) : Int) ∣ balD f s w n e
  rotate_left
  · rw [b2 hb, no _ hb]; rfl
  rw [b1 hb]
  by_cases hc : ((2305843009213693907 : Nat) : Int) ∣ balD f s w n e
  rotate_left
  · rw [c2 hc, no _ hc]; rfl
  rw [c1 hc, fin]
  obtain ⟨m1, m2, m3⟩ := CR.moduli_coprime
  have hz : balD f s w n e = 0 := by
    refine CR.crt m1 m2 m3 (Int.emod_eq_zero_of_dvd ha) (Int.emod_eq_zero_of_dvd hb) (Int.emod_eq_zero_of_dvd hc) ?_
    exact Nat.lt_of_le_of_lt (balD_abs hf hs hw hn he) (by decide +kernel)
  rw [decide_eq_true hz]; rfl
end Gp
set_option linter.unusedVariables false
set_option linter.unusedSimpArgs false
namespace Gp
open Gw Gq
abbrev fr (l : List Frac) (i : Int) : Frac := rdD l i z_Frac
abbrev tw (s : List Tile) (i : Nat) : Tile := rdD s (i : Int) z_Tile
theorem tw_get {s : List Tile} {i : Nat} (h : i < s.length) : tw s i = s[i] := rdD_get h _
theorem fr_mem {l : List Frac} {i : Int} (h : 0 ≤ i ∧ i < (l.length : Int)) : fr l i ∈ l := by
  obtain ⟨n, rfl⟩ : ∃ n : Nat, i = n := ⟨i.toNat, by omega⟩
  have hn : n < l.length := by omega
  show rdD l (n : Int) z_Frac ∈ l
  rw [rdD_get hn]; exact List.getElem_mem hn
structure OKW (s : List Tile) (w : Weights) : Prop where
  len : s.length ≤ 1000
  N : ∀ i, i < s.length → 0 ≤ (tw s i).N ∧ (tw s i).N < (w.Values.length : Int)
  S : ∀ i, i < s.length → 0 ≤ (tw s i).S ∧ (tw s i).S < (w.Values.length : Int)
  E : ∀ i, i < s.length → 0 ≤ (tw s i).E ∧ (tw s i).E < (w.Carries.length : Int)
  W : ∀ i, i < s.length → 0 ≤ (tw s i).W ∧ (tw s i).W < (w.Carries.length : Int)
  fl : w.Factors.length = s.length
  okv : ∀ f ∈ w.Values, okF f ∧ 0 ≤ f.Num
  okc : ∀ f ∈ w.Carries, okF f
  okf : ∀ f ∈ w.Factors, okF f ∧ 0 < f.Num
def balT (s : List Tile) (w : Weights) (i : Nat) : Bool := decide (balD (fr w.Factors i) (fr w.Values (tw s i).S) (fr w.Carries (tw s i).W) (fr w.Values (tw s i).N) (fr w.Carries (tw s i).E) = 0)
theorem OKW.f {s : List Tile} {w : Weights} (h : OKW s w) {i : Nat} (hi : i < s.length) : okF (fr w.Factors i) ∧ 0 < (fr w.Factors i).Num := h.okf _ (fr_mem (by rw [h.fl]; omega))
theorem ck1_l0 {s : List Tile} {w : Weights} (h : OKW s w) : ∀ (d x k : Nat), x + d = s.length → d + 4294970020 < k → weight_Check_1.l0 k x s w = some (if (List.range' x d).all (balT s w) = true then .inr () else .inl false)
  | 0, x, k, e, hk => by
    obtain ⟨k, rfl⟩ : ∃ m, k = m + 1 := ⟨k - 1, by omega⟩
    rw [weight_Check_1.l0, if_neg (by simp; omega)]; rfl
  | d + 1, x, k, e, hk => by
    obtain ⟨k, rfl⟩ : ∃ m, k = m + 1 := ⟨k - 1, by omega⟩
    have hl := h.len
    have hx : x < s.length := by omega
    have hwx : w64 ((x : Int) + 1) = ((x + 1 : Nat) : Int) := by rw [w64_id (by omega) (by omega)]; rfl
    have hF : 0 ≤ (x : Int) ∧ (x : Int) < (w.Factors.length : Int) := by rw [h.fl]; omega
    have hb := balanced_eq (h.f hx).1 (h.okv _ (fr_mem (h.S x hx))).1 (h.okc _ (fr_mem (h.W x hx))) (h.okv _ (fr_mem (h.N x hx))).1 (h.okc _ (fr_mem (h.E x hx))) (k := k) (by omega)
    have hb : weight_balanced k (rdD w.Factors x z_Frac) (rdD w.Values (rdD s (x : Int) z_Tile).S z_Frac) (rdD w.Carries (rdD s (x : Int) z_Tile).W z_Frac) (rdD w.Values (rdD s (x : Int) z_Tile).N z_Frac) (rdD w.Carries (rdD s (x : Int) z_Tile).E z_Frac) = some (balT s w x) := hb
    rw [weight_Check_1.l0, if_pos (by simpa using hx), if_pos (by omega), if_pos hF, if_pos (h.S x hx), if_pos (h.W x hx), if_pos (h.N x hx), if_pos (h.E x hx), hb, Option.bind_some, hwx, List.range'_succ, List.all_cons]
    cases hbt : balT s w x
    · rfl
    · rw [if_neg (by decide), Bool.true_and]
      exact ck1_l0 h d (x + 1) k (by omega) (by omega)
theorem ck1_eq {s : List Tile} {w : Weights} (h : OKW s w) {k : Nat} (hk : 4294980000 < k) : weight_Check_1 k s w = some ((List.range s.length).all (balT s w)) := by
  have hl := h.len
  have l0 := ck1_l0 h s.length 0 k (by omega) (by omega)
  have l0 : weight_Check_1.l0 k 0 s w = _ := l0
  unfold weight_Check_1
  rw [l0, Option.bind_some, ← List.range_eq_range']
  cases (List.range s.length).all (balT s w) <;> rfl
/-! factors that are equal -/
def eqF (a b : Frac) : Bool := decide (a.Num * b.Den = b.Num * a.Den)
theorem mul_bd {a b : Int} (ha : -1000000 ≤ a ∧ a ≤ 1000000) (hb : 1 ≤ b ∧ b ≤ 1000000) : -1000000000000 ≤ a * b ∧ a * b ≤ 1000000000000 := by
  have h : (a * b).natAbs ≤ 1000000 * 1000000 := by rw [Int.natAbs_mul]; exact Nat.mul_le_mul (by omega) (by omega)
  omega
theorem equal_eq {a b : Frac} (ha : okF a) (hb : okF b) : weight_equal a b = some (eqF a b) := by
  have h1 := mul_bd ha.1 hb.2
  have h2 := mul_bd hb.1 ha.2
  unfold weight_equal eqF
  rw [w64_id (by omega) (by omega), w64_id (by omega) (by omega)]
  rfl
theorem eqF_refl (a : Frac) : eqF a a = true := decide_eq_true rfl
theorem eqF_trans {a b c : Frac} (hb : okF b) (h1 : eqF a b = true) (h2 : eqF b c = true) : eqF a c = true := by
  unfold eqF at *
  rw [decide_eq_true_eq] at *
  have hb0 : b.Den ≠ 0 := by have := hb.2.1; omega
  have : b.Den * (a.Num * c.Den) = b.Den * (c.Num * a.Den) := by
    have e1 : b.Den * (a.Num * c.Den) = a.Num * b.Den * c.Den := by rw [Int.mul_left_comm, Int.mul_assoc]
    have e2 : b.Den * (c.Num * a.Den) = c.Num * b.Den * a.Den := by rw [Int.mul_left_comm, Int.mul_assoc]
    rw [e1, e2, h1, ← h2, Int.mul_right_comm]
  exact Int.eq_of_mul_eq_mul_left hb0 this
theorem eqF_symm {a b : Frac} (h : eqF a b = true) : eqF b a = true := by
  unfold eqF at *
  rw [decide_eq_true_eq] at *
  exact h.symm
end Gp
set_option linter.unusedVariables false
set_option linter.unusedSimpArgs false
namespace Gp
open Gw Gq
theorem mgetW {κ ν : Type} [DecidableEq κ] (x y : κ) (z v : ν) : ∀ l : List (κ × ν), mget x z (mput y v l) = if x = y then v else mget x z l
  | [] => by simp [mput, mget]
  | p :: r => by
    simp only [mput]
    by_cases h : y = p.1
    · rw [if_pos h]
      simp only [mget]
      by_cases hx : x = y
      · rw [if_pos hx, if_pos hx]
      · rw [if_neg hx, if_neg hx, if_neg (fun e => hx (e.trans h.symm))]
    · rw [if_neg h]
      simp only [mget]
      by_cases hx : x = p.1
      · rw [if_pos hx, if_pos hx, if_neg (fun e => h (e.symm.trans hx))]
      · rw [if_neg hx, if_neg hx]; exact mgetW x y z v r
theorem mhasW {κ ν : Type} [DecidableEq κ] (x y : κ) (v : ν) : ∀ l : List (κ × ν), mhas x (mput y v l) = (decide (x = y) || mhas x l)
  | [] => by simp [mput, mhas]
  | p :: r => by
    simp only [mput]
    by_cases h : y = p.1
    · rw [if_pos h]
      simp only [mhas]
      by_cases hx : x = y
      · simp [hx]
      · have : ¬ x = p.1 := fun e => hx (e.trans h.symm)
        simp [hx, this]
    · rw [if_neg h]
      simp only [mhas, mhasW x y v r]
      by_cases hx : x = y
      · have : ¬ x = p.1 := fun e => h (hx.symm.trans e)
        simp [hx]
      · simp [hx]
structure BI (s : List Tile) (w : Weights) (x : Nat) (m : List (Int × Frac)) : Prop where
  has : ∀ c, mhas c m = true ↔ ∃ j, j < x ∧ (tw s j).W = c
  get : ∀ c, mhas c m = true → ∃ j, j < x ∧ (tw s j).W = c ∧ mget c z_Frac m = fr w.Factors j
def inE (s : List Tile) (c : Int) : Prop := ∃ u, u < s.length ∧ (tw s u).E = c
def sameW (s : List Tile) (w : Weights) (x : Nat) : Prop := ∀ j j', j < x → j' < x → (tw s j).W = (tw s j').W → inE s (tw s j).W → eqF (fr w.Factors j) (fr w.Factors j') = true
theorem ck2_l1 {s : List Tile} (hl : s.length ≤ 1000) {i : Nat} (hi : i < s.length) : ∀ (d x k : Nat), x + d = s.length → d < k → (weight_Check_2.l1 k x s i = some (.inl false) ∧ ∃ u, x ≤ u ∧ u < s.length ∧ (tw s u).E = (tw s i).W) ∨ (weight_Check_2.l1 k x s i = some (.inr ()) ∧ ∀ u, x ≤ u → u < s.length → ¬ (tw s u).E = (tw s i).W)
  | 0, x, k, e, hk => by
    obtain ⟨k, rfl⟩ : ∃ m, k = m + 1 := ⟨k - 1, by omega⟩
    exact .inr ⟨by rw [weight_Check_2.l1, if_neg (by simp; omega)], fun u h1 h2 => by omega⟩
  | d + 1, x, k, e, hk => by
    obtain ⟨k, rfl⟩ : ∃ m, k = m + 1 := ⟨k - 1, by omega⟩
    have hx : x < s.length := by omega
    have hwx : w64 ((x : Int) + 1) = ((x + 1 : Nat) : Int) := by rw [w64_id (by omega) (by omega)]; rfl
    rw [weight_Check_2.l1, if_pos (by simpa using hx), if_pos (by omega), hwx]
    by_cases he : (tw s x).E = (tw s i).W
    · exact .inl ⟨by rw [if_pos (by simpa using he)], x, by omega, hx, he⟩
    · rw [if_neg (by simpa using he)]
      rcases ck2_l1 hl hi d (x + 1) k (by omega) (by omega) with ⟨h1, u, h2, h3, h4⟩ | ⟨h1, h2⟩
      · exact .inl ⟨h1, u, by omega, h3, h4⟩
      · refine .inr ⟨h1, fun u h3 h4 => ?_⟩
        by_cases e2 : u = x
        · rw [e2]; exact he
        · exact h2 u (by omega) h4
theorem BI.put {s : List Tile} {w : Weights} {x : Nat} {m : List (Int × Frac)} (h : BI s w x m) : BI s w (x + 1) (mput (tw s x).W (fr w.Factors x) m) := by
  refine ⟨fun c => ?_, fun c hc => ?_⟩
  · rw [mhasW, Bool.or_eq_true, decide_eq_true_eq, h.has]
    constructor
    · rintro (rfl | ⟨j, h1, h2⟩)
      · exact ⟨x, by omega, rfl⟩
      · exact ⟨j, by omega, h2⟩
    · rintro ⟨j, h1, h2⟩
      by_cases e : j = x
      · exact .inl (by rw [← h2, e])
      · exact .inr ⟨j, by omega, h2⟩
  · rw [mgetW]
    by_cases e : c = (tw s x).W
    · rw [if_pos e]; exact ⟨x, by omega, e.symm, rfl⟩
    · rw [if_neg e]
      rw [mhasW, Bool.or_eq_true, decide_eq_true_eq] at hc
      obtain ⟨j, h1, h2, h3⟩ := h.get c (hc.resolve_left e)
      exact ⟨j, by omega, h2, h3⟩
theorem sameW_step {s : List Tile} {w : Weights} (ok : OKW s w) {x : Nat} (hx : x < s.length) (h : sameW s w x) (hs : ∀ j, j < x → (tw s j).W = (tw s x).W → inE s (tw s x).W → eqF (fr w.Factors j) (fr w.Factors x) = true) : sameW s w (x + 1) := fun j j' h1 h2 h3 h4 => by
  by_cases e1 : j = x
  · by_cases e2 : j' = x
    · rw [e1, e2]; exact eqF_refl _
    · rw [e1]
      refine eqF_symm (hs j' (by omega) (by rw [← h3, e1]) (by rw [← e1]; exact h4))
  · by_cases e2 : j' = x
    · rw [e2]
      exact hs j (by omega) (by rw [h3, e2]) (by rw [← e2, ← h3]; exact h4)
    · exact h j j' (by omega) (by omega) h3 h4
theorem ck2_l0 {s : List Tile} {w : Weights} (ok : OKW s w) : ∀ (d x k : Nat) (m : List (Int × Frac)), x + d = s.length → d + 1001 < k → BI s w x m → sameW s w x →
    (weight_Check_2.l0 k m x s w = some (.inl false) ∧ ¬ sameW s w s.length) ∨ (∃ m', weight_Check_2.l0 k m x s w = some (.inr m') ∧ BI s w s.length m' ∧ sameW s w s.length)
  | 0, x, k, m, e, hk, hb, hs => by
    obtain ⟨k, rfl⟩ : ∃ m, k = m + 1 := ⟨k - 1, by omega⟩
    obtain rfl : x = s.length := by omega
    exact .inr ⟨m, by rw [weight_Check_2.l0, if_neg (by simp)], hb, hs⟩
  | d + 1, x, k, m, e, hk, hb, hs => by
    obtain ⟨k, rfl⟩ : ∃ m, k = m + 1 := ⟨k - 1, by omega⟩
    have hl := ok.len
    have hx : x < s.length := by omega
    have hwx : w64 ((x : Int) + 1) = ((x + 1 : Nat) : Int) := by rw [w64_id (by omega) (by omega)]; rfl
    have hF : 0 ≤ (x : Int) ∧ (x : Int) < (w.Factors.length : Int) := by rw [ok.fl]; omega
    rw [weight_Check_2.l0, if_pos (by simpa using hx), if_pos (by omega), hwx]
    simp only [if_pos hF]
    have next := ck2_l0 ok d (x + 1) k _ (by omega) (by omega) hb.put
    by_cases hm : mhas (tw s x).W m = true
    · obtain ⟨j, j1, j2, j3⟩ := hb.get _ hm
      have j3 : mget (rdD s (x : Int) z_Tile).W z_Frac m = fr w.Factors j := j3
      rw [if_pos hm, j3, equal_eq (ok.f (by omega)).1 (ok.f hx).1, Option.bind_some]
      cases heq : eqF (fr w.Factors j) (fr w.Factors x)
      · have l1 := ck2_l1 hl hx s.length 0 k (by omega) (by omega)
        have l1 : (weight_Check_2.l1 k 0 s x = some (.inl false) ∧ _) ∨ (weight_Check_2.l1 k 0 s x = some (.inr ()) ∧ _) := l1
        rcases l1 with ⟨h1, u, h2, h3, h4⟩ | ⟨h1, h2⟩
        · refine .inl ⟨?_, fun hw => ?_⟩
          · show ((if (!false) = true then _ else _ : Option (Sum Bool Unit)).bind _) = _
            rw [if_pos (by decide), h1]; rfl
          · have := hw j x (by omega) hx j2 (by rw [j2]; exact ⟨u, h3, h4⟩)
            rw [heq] at this; cases this
        · have hs2 : sameW s w (x + 1) := sameW_step ok hx hs fun j' h3 h4 h5 => by
            obtain ⟨u, h6, h7⟩ := h5
            exact absurd h7 (h2 u (by omega) h6)
          have := next hs2
          show (((if (!false) = true then _ else _ : Option (Sum Bool Unit)).bind _) = _ ∧ _) ∨ ∃ m', ((if (!false) = true then _ else _ : Option (Sum Bool Unit)).bind _) = _ ∧ _
          rw [if_pos (by decide), h1]
          exact this
      · have hs2 : sameW s w (x + 1) := sameW_step ok hx hs fun j' h3 h4 h5 => eqF_trans (ok.f (by omega)).1 (hs j' j h3 j1 (by rw [h4, j2]) (by rw [h4]; exact h5)) heq
        exact next hs2
    · have hm2 : mhas (tw s x).W m = false := by simpa using hm
      rw [if_neg hm]
      have hs2 : sameW s w (x + 1) := sameW_step ok hx hs fun j' h3 h4 h5 => absurd ((hb.has _).2 ⟨j', h3, h4⟩) hm
      exact next hs2
end Gp
set_option linter.unusedVariables false
set_option linter.unusedSimpArgs false
namespace Gp
open Gw Gq
theorem ck2_l2 {s : List Tile} {w : Weights} (ok : OKW s w) {m : List (Int × Frac)} (hb : BI s w s.length m) : ∀ (d x k : Nat), x + d = s.length → d < k →
    (weight_Check_2.l2 k x s w m = some (.inl false) ∧ ∃ i j, i < s.length ∧ j < s.length ∧ (tw s j).W = (tw s i).E ∧ eqF (fr w.Factors j) (fr w.Factors i) = false) ∨
    (weight_Check_2.l2 k x s w m = some (.inr ()) ∧ ∀ i, x ≤ i → i < s.length → (∃ j, j < s.length ∧ (tw s j).W = (tw s i).E) → ∃ j, j < s.length ∧ (tw s j).W = (tw s i).E ∧ eqF (fr w.Factors j) (fr w.Factors i) = true)
  | 0, x, k, e, hk => by
    obtain ⟨k, rfl⟩ : ∃ m, k = m + 1 := ⟨k - 1, by omega⟩
    exact .inr ⟨by rw [weight_Check_2.l2, if_neg (by simp; omega)], fun i h1 h2 => by omega⟩
  | d + 1, x, k, e, hk => by
    obtain ⟨k, rfl⟩ : ∃ m, k = m + 1 := ⟨k - 1, by omega⟩
    have hl := ok.len
    have hx : x < s.length := by omega
    have hwx : w64 ((x : Int) + 1) = ((x + 1 : Nat) : Int) := by rw [w64_id (by omega) (by omega)]; rfl
    have hF : 0 ≤ (x : Int) ∧ (x : Int) < (w.Factors.length : Int) := by rw [ok.fl]; omega
    rw [weight_Check_2.l2, if_pos (by simpa using hx), if_pos (by omega), hwx]
    simp only [if_pos hF]
    have next := ck2_l2 ok hb d (x + 1) k (by omega) (by omega)
    by_cases hm : mhas (tw s x).E m = true
    · obtain ⟨j, j1, j2, j3⟩ := hb.get _ hm
      have j3 : mget (rdD s (x : Int) z_Tile).E z_Frac m = fr w.Factors j := j3
      rw [if_pos hm, j3, equal_eq (ok.f j1).1 (ok.f hx).1, Option.bind_some]
      cases heq : eqF (fr w.Factors j) (fr w.Factors x)
      · exact .inl ⟨rfl, x, j, hx, j1, j2, heq⟩
      · rcases next with ⟨h1, h2⟩ | ⟨h1, h2⟩
        · exact .inl ⟨h1, h2⟩
        · refine .inr ⟨h1, fun i h3 h4 h5 => ?_⟩
          by_cases e2 : i = x
          · rw [e2]; exact ⟨j, j1, j2, heq⟩
          · exact h2 i (by omega) h4 h5
    · rw [if_neg hm]
      rcases next with ⟨h1, h2⟩ | ⟨h1, h2⟩
      · exact .inl ⟨h1, h2⟩
      · refine .inr ⟨h1, fun i h3 h4 h5 => ?_⟩
        by_cases e2 : i = x
        · obtain ⟨j, j1, j2⟩ := h5
          exact absurd ((hb.has _).2 ⟨j, j1, by rw [j2, e2]⟩) hm
        · exact h2 i (by omega) h4 h5
def pairsF (s : List Tile) (w : Weights) : Prop := ∀ i j, i < s.length → j < s.length → (tw s i).E = (tw s j).W → eqF (fr w.Factors i) (fr w.Factors j) = true
theorem ck2_eq {s : List Tile} {w : Weights} (ok : OKW s w) {k : Nat} (hk : 5000 < k) : ∃ b, weight_Check_2 k s w = some b ∧ (b = true ↔ pairsF s w) := by
  have hl := ok.len
  have l0 := ck2_l0 ok s.length 0 k [] (by omega) (by omega) ⟨fun c => by simp [mhas], fun c hc => by simp [mhas] at hc⟩ (fun j j' h => by omega)
  have l0 : (weight_Check_2.l0 k [] 0 s w = some (.inl false) ∧ _) ∨ (∃ m', weight_Check_2.l0 k [] 0 s w = some (.inr m') ∧ _) := l0
  have fromP : pairsF s w → sameW s w s.length := fun h j j' h1 h2 h3 ⟨u, h4, h5⟩ => eqF_trans (ok.f h4).1 (eqF_symm (h u j h4 h1 h5)) (h u j' h4 h2 (by rw [h5, h3]))
  unfold weight_Check_2
  rcases l0 with ⟨h1, h2⟩ | ⟨m, h1, h2, h3⟩
  · exact ⟨false, by rw [h1]; rfl, ⟨fun h => (by cases h), fun h => absurd (fromP h) h2⟩⟩
  · rw [h1]
    have l2 := ck2_l2 ok h2 s.length 0 k (by omega) (by omega)
    have l2 : (weight_Check_2.l2 k 0 s w m = some (.inl false) ∧ _) ∨ (weight_Check_2.l2 k 0 s w m = some (.inr ()) ∧ _) := l2
    rcases l2 with ⟨g1, i, j, g2, g3, g4, g5⟩ | ⟨g1, g2⟩
    · refine ⟨false, ?_, ⟨fun h => (by cases h), fun h => ?_⟩⟩
      · show (weight_Check_2.l2 k 0 s w m).bind _ = _
        rw [g1]; rfl
      · have := eqF_symm (h i j g2 g3 g4.symm)
        rw [g5] at this; cases this
    · refine ⟨true, ?_, ⟨fun _ => ?_, fun _ => rfl⟩⟩
      · show (weight_Check_2.l2 k 0 s w m).bind _ = _
        rw [g1]; rfl
      · intro i j hi hj hij
        obtain ⟨j', h4, h5, h6⟩ := g2 i (by omega) hi ⟨j, hj, hij.symm⟩
        exact eqF_symm (eqF_trans (ok.f h4).1 (h3 j j' hj h4 (by rw [h5, hij]) ⟨i, hi, hij⟩) h6)
end Gp
set_option linter.unusedVariables false
set_option linter.unusedSimpArgs false
namespace Gp
open Gw Gq
def keepP (m : List (Int × Bool)) (t : Tile) : Bool := mget t.E false m
theorem del_l0 {m : List (Int × Bool)} {o : List Tile} (ho : o.length ≤ 100000) : ∀ (d j k i : Nat) (L : List Tile), j + d = o.length → d < k → L.length = o.length → i ≤ j → L.take i = (o.take j).filter (keepP m) → L.drop j = o.drop j →
    ∃ L' i', slices_DeleteFunc_api_Tile_api_Tile_with_weight_acyclic_1.l0 k L i j m = some (L', ((i' : Nat) : Int)) ∧ L'.length = o.length ∧ i' ≤ o.length ∧ L'.take i' = o.filter (keepP m)
  | 0, j, k, i, L, e, hk, hL, hi, h1, h2 => by
    obtain ⟨k, rfl⟩ : ∃ m, k = m + 1 := ⟨k - 1, by omega⟩
    refine ⟨L, i, by rw [slices_DeleteFunc_api_Tile_api_Tile_with_weight_acyclic_1.l0, if_neg (by simp; omega)], hL, by omega, ?_⟩
    rw [h1, List.take_of_length_le (by omega)]
  | d + 1, j, k, i, L, e, hk, hL, hi, h1, h2 => by
    obtain ⟨k, rfl⟩ : ∃ m, k = m + 1 := ⟨k - 1, by omega⟩
    have hj : j < L.length := by omega
    have hjo : j < o.length := by omega
    have hwj : w64 ((j : Int) + 1) = ((j + 1 : Nat) : Int) := by rw [w64_id (by omega) (by omega)]; rfl
    have hwi : w64 ((i : Int) + 1) = ((i + 1 : Nat) : Int) := by rw [w64_id (by omega) (by omega)]; rfl
    have hLj : L[j] = o[j] := by
      rw [List.drop_eq_getElem_cons hj, List.drop_eq_getElem_cons hjo] at h2
      injection h2
    have h3 : L.drop (j + 1) = o.drop (j + 1) := by
      rw [List.drop_eq_getElem_cons hj, List.drop_eq_getElem_cons hjo] at h2
      injection h2
    have ht : (o.take (j + 1)).filter (keepP m) = (o.take j).filter (keepP m) ++ if keepP m o[j] = true then [o[j]] else [] := by
      rw [List.take_succ_eq_append_getElem hjo, List.filter_append]
      congr 1
      simp only [List.filter_cons, List.filter_nil]
    have ha : weight_acyclic_1 (rdD L (j : Int) z_Tile) m = some (!keepP m o[j]) := by rw [rdD_get hj, hLj]; rfl
    rw [slices_DeleteFunc_api_Tile_api_Tile_with_weight_acyclic_1.l0, if_pos (by simpa using hj), if_pos (by omega), ha, Option.bind_some, hwj]
    cases hp : keepP m o[j]
    · rw [hp, if_neg (by decide), List.append_nil] at ht
      rw [if_neg (by decide), Option.bind_some]
      exact del_l0 ho d (j + 1) k i L (by omega) (by omega) hL (by omega) (by rw [h1, ht]) h3
    · rw [hp, if_pos rfl] at ht
      rw [if_pos (by decide), if_pos (by omega), Option.bind_some, hwi, rdD_get hj, hLj, Int.toNat_natCast]
      refine del_l0 ho d (j + 1) k (i + 1) _ (by omega) (by omega) (by rw [List.length_set, hL]) (by omega) ?_ ?_
      · rw [ht, ← h1, List.take_succ_eq_append_getElem (by rw [List.length_set]; omega), List.getElem_set_self, List.take_set_of_le (by omega)]
      · rw [List.drop_set_of_lt (by omega), h3]
theorem idx_l0 {m : List (Int × Bool)} {o : List Tile} (ho : o.length ≤ 100000) : ∀ (d j k : Nat), j + d = o.length → d < k →
    (∃ i, ∃ hi : i < o.length, j ≤ i ∧ slices_IndexFunc_api_Tile_api_Tile_with_weight_acyclic_1.l0 k j o m = some (.inl ((i : Nat) : Int)) ∧ keepP m o[i] = false ∧ ∀ x, (hx : x < o.length) → j ≤ x → x < i → keepP m o[x] = true) ∨
    (slices_IndexFunc_api_Tile_api_Tile_with_weight_acyclic_1.l0 k j o m = some (.inr ()) ∧ ∀ x, (hx : x < o.length) → j ≤ x → keepP m o[x] = true)
  | 0, j, k, e, hk => by
    obtain ⟨k, rfl⟩ : ∃ m, k = m + 1 := ⟨k - 1, by omega⟩
    exact .inr ⟨by rw [slices_IndexFunc_api_Tile_api_Tile_with_weight_acyclic_1.l0, if_neg (by simp; omega)], fun x hx h1 => by omega⟩
  | d + 1, j, k, e, hk => by
    obtain ⟨k, rfl⟩ : ∃ m, k = m + 1 := ⟨k - 1, by omega⟩
    have hj : j < o.length := by omega
    have hwj : w64 ((j : Int) + 1) = ((j + 1 : Nat) : Int) := by rw [w64_id (by omega) (by omega)]; rfl
    have ha : weight_acyclic_1 (rdD o (j : Int) z_Tile) m = some (!keepP m o[j]) := by rw [rdD_get hj]; rfl
    rw [slices_IndexFunc_api_Tile_api_Tile_with_weight_acyclic_1.l0, if_pos (by simpa using hj), if_pos (by omega), ha, Option.bind_some, hwj]
    cases hp : keepP m o[j]
    · exact .inl ⟨j, hj, by omega, by rw [if_pos (by decide)], hp, fun x hx h1 h2 => by omega⟩
    · rw [if_neg (by decide)]
      rcases idx_l0 ho d (j + 1) k (by omega) (by omega) with ⟨i, h2, h1, h3, hq, h4⟩ | ⟨h1, h2⟩
      · refine .inl ⟨i, h2, by omega, h3, hq, fun x hx h5 h6 => ?_⟩
        by_cases e2 : x = j
        · subst e2; exact hp
        · exact h4 x hx (by omega) h6
      · refine .inr ⟨h1, fun x hx h5 => ?_⟩
        by_cases e2 : x = j
        · subst e2; exact hp
        · exact h2 x hx (by omega)
theorem filter_all {p : Tile → Bool} {l : List Tile} (h : ∀ x, (hx : x < l.length) → p l[x] = true) : l.filter p = l := by
  rw [List.filter_eq_self]
  intro t ht
  obtain ⟨i, hi, rfl⟩ := List.getElem_of_mem ht
  exact h i hi
theorem delete_eq {m : List (Int × Bool)} {o : List Tile} (ho : o.length ≤ 100000) {k : Nat} (hk : o.length + 2 < k) : slices_DeleteFunc_api_Tile_api_Tile_with_weight_acyclic_1 k o m = some (o.filter (keepP m)) := by
  have hi := idx_l0 (m := m) ho o.length 0 k (by omega) (by omega)
  have hi : (∃ i, ∃ hi : i < o.length, 0 ≤ i ∧ slices_IndexFunc_api_Tile_api_Tile_with_weight_acyclic_1.l0 k 0 o m = some (.inl ((i : Nat) : Int)) ∧ keepP m o[i] = false ∧ _) ∨ (slices_IndexFunc_api_Tile_api_Tile_with_weight_acyclic_1.l0 k 0 o m = some (.inr ()) ∧ _) := hi
  unfold slices_DeleteFunc_api_Tile_api_Tile_with_weight_acyclic_1 slices_IndexFunc_api_Tile_api_Tile_with_weight_acyclic_1
  rcases hi with ⟨i, h1, _, h2, hp, h3⟩ | ⟨h1, h2⟩
  · have hwi : w64 ((i : Int) + 1) = ((i + 1 : Nat) : Int) := by rw [w64_id (by omega) (by omega)]; rfl
    rw [h2, Option.bind_some]
    show (if ((i : Int) == -1) = true then some o else _) = _
    rw [if_neg (by rw [beq_iff_eq]; omega), hwi]
    have e1 : (o.take (i + 1)).filter (keepP m) = o.take i := by
      rw [List.take_succ_eq_append_getElem h1, List.filter_append, filter_all (l := o.take i) (fun x hx => by
        rw [List.getElem_take]
        have : x < i := by rw [List.length_take] at hx; omega
        exact h3 x (by omega) (by omega) this)]
      simp [hp]
    obtain ⟨L', i', g1, g2, g3, g4⟩ := del_l0 (m := m) ho (o.length - (i + 1)) (i + 1) k i o (by omega) (by omega) rfl (by omega) e1.symm rfl
    rw [g1, Option.bind_some]
    show (if 0 ≤ (i' : Int) ∧ (i' : Int) ≤ (L'.length : Int) ∧ (L'.length : Int) ≤ (L'.length : Int) then _ else _) = _
    rw [if_pos (by omega), Int.toNat_natCast, g4]
  · rw [h1, Option.bind_some]
    rw [filter_all (fun x hx => h2 x hx (by omega))]
    rfl
end Gp
set_option linter.unusedVariables false
set_option linter.unusedSimpArgs false
namespace Gp
open Gw Gq
theorem acy_l1 {l : List Tile} (hl : l.length ≤ 100000) : ∀ (d x k : Nat) (m : List (Int × Bool)), x + d = l.length → d < k → (∀ c, mget c false m = true ↔ ∃ t ∈ l.take x, t.W = c) → ∃ m', weight_acyclic.l1 k m x l = some m' ∧ ∀ c, mget c false m' = true ↔ ∃ t ∈ l, t.W = c
  | 0, x, k, m, e, hk, h => by
    obtain ⟨k, rfl⟩ : ∃ m, k = m + 1 := ⟨k - 1, by omega⟩
    refine ⟨m, by rw [weight_acyclic.l1, if_neg (by simp; omega)], ?_⟩
    rwa [List.take_of_length_le (by omega)] at h
  | d + 1, x, k, m, e, hk, h => by
    obtain ⟨k, rfl⟩ : ∃ m, k = m + 1 := ⟨k - 1, by omega⟩
    have hx : x < l.length := by omega
    have hwx : w64 ((x : Int) + 1) = ((x + 1 : Nat) : Int) := by rw [w64_id (by omega) (by omega)]; rfl
    rw [weight_acyclic.l1, if_pos (by simpa using hx), if_pos (by omega), rdD_get hx, hwx]
    refine acy_l1 hl d (x + 1) k _ (by omega) (by omega) fun c => ?_
    rw [mgetW, List.take_succ_eq_append_getElem hx]
    by_cases hc : c = l[x].W
    · rw [if_pos hc]
      exact ⟨fun _ => ⟨l[x], List.mem_append_right _ (List.mem_singleton.2 rfl), hc.symm⟩, fun _ => rfl⟩
    · rw [if_neg hc, h]
      constructor
      · rintro ⟨t, h1, h2⟩; exact ⟨t, List.mem_append_left _ h1, h2⟩
      · rintro ⟨t, h1, h2⟩
        rcases List.mem_append.1 h1 with h1 | h1
        · exact ⟨t, h1, h2⟩
        · rw [List.mem_singleton] at h1
          exact absurd (by rw [← h2, h1]) hc
def noCyc (l : List Tile) : Prop := ∀ C : List Tile, (∀ t ∈ C, t ∈ l) → (∀ t ∈ C, ∃ u ∈ C, u.W = t.E) → C = []
theorem acy_l0 : ∀ (n k : Nat) (l : List Tile), l.length ≤ n → n ≤ 1000 → n + 2000 < k → (weight_acyclic.l0 k l = some (.inr ()) ∧ noCyc l) ∨ (weight_acyclic.l0 k l = some (.inl false) ∧ ¬ noCyc l)
  | n, k, l, hl, hn, hk => by
    obtain ⟨k, rfl⟩ : ∃ m, k = m + 1 := ⟨k - 1, by omega⟩
    by_cases h0 : l.length = 0
    · left
      have : l = [] := List.eq_nil_of_length_eq_zero h0
      subst this
      refine ⟨by rw [weight_acyclic.l0, if_neg (by simp)], fun C h1 _ => ?_⟩
      cases C with
      | nil => rfl
      | cons a C => exact absurd (h1 a (by simp)) (by simp)
    · obtain ⟨m, e1, h1⟩ := acy_l1 (l := l) (by omega) l.length 0 k [] (by omega) (by omega) (fun c => by simp [mget])
      have e1 : weight_acyclic.l1 k [] 0 l = some m := e1
      have hcl : slices_Clone_api_Tile_api_Tile l = some l := by
        unfold slices_Clone_api_Tile_api_Tile slices_Clone_api_Tile_api_Tile_some
        rw [if_pos (by simp; omega), List.nil_append]
      rw [weight_acyclic.l0, if_pos (by simp; omega), e1, Option.bind_some, hcl, Option.bind_some, delete_eq (by omega) (by omega), Option.bind_some]
      have keep : ∀ t, keepP m t = true ↔ ∃ u ∈ l, u.W = t.E := fun t => h1 t.E
      by_cases he : (l.filter (keepP m)).length = l.length
      · right
        refine ⟨by rw [if_pos (by rw [he]; simp)], fun hno => h0 ?_⟩
        have hall := List.length_filter_eq_length_iff.1 he
        rw [hno l (fun t ht => ht) (fun t ht => (keep t).1 (hall t ht))]; rfl
      · have hlt : (l.filter (keepP m)).length < l.length := Nat.lt_of_le_of_ne (List.length_filter_le _ _) he
        have hn0 : 0 < n := by omega
        rw [if_neg (by rw [beq_iff_eq]; omega)]
        rcases acy_l0 (n - 1) k (l.filter (keepP m)) (by omega) (by omega) (by omega) with ⟨g1, g2⟩ | ⟨g1, g2⟩
        · refine .inl ⟨g1, fun C c1 c2 => g2 C (fun t ht => ?_) c2⟩
          obtain ⟨u, hu, hw⟩ := c2 t ht
          exact List.mem_filter.2 ⟨c1 t ht, (keep t).2 ⟨u, c1 u hu, hw⟩⟩
        · exact .inr ⟨g1, fun hno => g2 fun C c1 c2 => hno C (fun t ht => (List.mem_filter.1 (c1 t ht)).1) c2⟩
termination_by n => n
theorem acyclic_eq {l : List Tile} (hl : l.length ≤ 1000) {k : Nat} (hk : 3000 < k) : ∃ b, weight_acyclic k l = some b ∧ (b = true ↔ noCyc l) := by
  unfold weight_acyclic
  rcases acy_l0 1000 k l hl (by omega) (by omega) with ⟨h1, h2⟩ | ⟨h1, h2⟩
  · exact ⟨true, by rw [h1]; rfl, ⟨fun _ => h2, fun _ => rfl⟩⟩
  · exact ⟨false, by rw [h1]; rfl, ⟨fun h => (by cases h), fun h => absurd h h2⟩⟩
def zeroT (s : List Tile) (w : Weights) : List Tile := s.filter fun t => (fr w.Values t.S).Num == 0
theorem ck3_l0 {s : List Tile} {w : Weights} (ok : OKW s w) : ∀ (d x k : Nat) (acc : List Tile), x + d = s.length → d < k → acc.length ≤ x → weight_Check_3.l0 k acc x s w = some (acc ++ (s.drop x).filter fun t => (fr w.Values t.S).Num == 0)
  | 0, x, k, acc, e, hk, ha => by
    obtain ⟨k, rfl⟩ : ∃ m, k = m + 1 := ⟨k - 1, by omega⟩
    rw [weight_Check_3.l0, if_neg (by simp; omega), List.drop_of_length_le (by omega)]; simp
  | d + 1, x, k, acc, e, hk, ha => by
    obtain ⟨k, rfl⟩ : ∃ m, k = m + 1 := ⟨k - 1, by omega⟩
    have hl := ok.len
    have hx : x < s.length := by omega
    have hwx : w64 ((x : Int) + 1) = ((x + 1 : Nat) : Int) := by rw [w64_id (by omega) (by omega)]; rfl
    have hS := ok.S x hx
    have ht : rdD s (x : Int) z_Tile = s[x] := rdD_get hx _
    rw [weight_Check_3.l0, if_pos (by simpa using hx), if_pos (by omega), if_pos hS, hwx, ht, List.drop_eq_getElem_cons hx, List.filter_cons]
    by_cases h0 : (fr w.Values s[x].S).Num = 0
    · have h0' : ((rdD w.Values s[x].S z_Frac).Num == 0) = true := by simpa using h0
      rw [if_pos h0', if_pos (by simp; omega), Option.bind_some, ck3_l0 ok d (x + 1) k _ (by omega) (by omega) (by simp; omega), if_pos h0', List.append_assoc]; rfl
    · have h0' : ¬ ((rdD w.Values s[x].S z_Frac).Num == 0) = true := by simpa using h0
      rw [if_neg h0', Option.bind_some, ck3_l0 ok d (x + 1) k _ (by omega) (by omega) (by omega), if_neg h0']
theorem ck3_eq {s : List Tile} {w : Weights} (ok : OKW s w) {k : Nat} (hk : 5000 < k) : ∃ b, weight_Check_3 k s w = some b ∧ (b = true ↔ noCyc (zeroT s w)) := by
  have hl := ok.len
  have l0 := ck3_l0 ok s.length 0 k [] (by omega) (by omega) (by simp)
  have l0 : weight_Check_3.l0 k [] 0 s w = _ := l0
  obtain ⟨b, h1, h2⟩ := acyclic_eq (l := zeroT s w) (Nat.le_trans (List.length_filter_le _ _) hl) (k := k) (by omega)
  unfold weight_Check_3
  rw [l0, Option.bind_some, List.nil_append, List.drop_zero]
  exact ⟨b, by show (weight_acyclic k (zeroT s w)).bind _ = _; rw [h1]; rfl, h2⟩
end Gp
set_option linter.unusedVariables false
set_option linter.unusedSimpArgs false
namespace Gp
open Gw Gq
theorem w64_nat {n : Nat} (h : n ≤ 1000000000) : w64 (n : Int) = n := w64_id (by omega) (by omega)
theorem gcd_l0 : ∀ (k a b : Nat), b < k → weight_gcd.l0 k (a : Int) (b : Int) = some ((Nat.gcd a b : Nat) : Int)
  | 0, a, b, h => by omega
  | k + 1, a, b, h => by
    rw [weight_gcd.l0]
    by_cases h0 : b = 0
    · subst h0
      rw [if_neg (by simp), Nat.gcd_zero_right]
    · rw [if_pos (by simpa using h0), if_pos (by omega)]
      show weight_gcd.l0 k (b : Int) ((a % b : Nat) : Int) = _
      have := Nat.mod_lt a (show 0 < b by omega)
      rw [gcd_l0 k b (a % b) (by omega), Nat.gcd_comm a b, Nat.gcd_rec b a, Nat.gcd_comm (a % b) b]
theorem gcd_eq {a b k : Nat} (h : b < k) : weight_gcd k (a : Int) (b : Int) = some ((Nat.gcd a b : Nat) : Int) := by
  unfold weight_gcd
  rw [gcd_l0 k a b h]; rfl
theorem lowest_eq {a b k : Nat} (ha : 1 ≤ a ∧ a ≤ 1000000) (hb : 1 ≤ b ∧ b ≤ 1000000) (hk : 1000001 < k) : weight_fraction_lowest k ⟨(a : Int), (b : Int)⟩ = some ⟨((a / Nat.gcd a b : Nat) : Int), ((b / Nat.gcd a b : Nat) : Int)⟩ := by
  have hg : 0 < Nat.gcd a b := Nat.gcd_pos_of_pos_left _ (by omega)
  unfold weight_fraction_lowest
  simp only
  have hm : maxI (a : Int) (w64 (0 - (a : Int))) = (a : Int) := by
    rw [w64_id (by omega) (by omega)]
    unfold maxI; split <;> omega
  have h1 : a / Nat.gcd a b ≤ a := Nat.div_le_self _ _
  have h2 : b / Nat.gcd a b ≤ b := Nat.div_le_self _ _
  rw [hm, gcd_eq (by omega), Option.bind_some, if_pos (by omega)]
  have e1 : Int.tdiv (a : Int) ((Nat.gcd a b : Nat) : Int) = ((a / Nat.gcd a b : Nat) : Int) := rfl
  have e2 : Int.tdiv (b : Int) ((Nat.gcd a b : Nat) : Int) = ((b / Nat.gcd a b : Nat) : Int) := rfl
  rw [e1, e2, w64_nat (Nat.le_trans h1 (by omega)), w64_nat (Nat.le_trans h2 (by omega))]
structure DivO (p n n' a : Nat) : Prop where
  eq : n = n' * p ^ a
  no : ¬ p ∣ n'
theorem divo_lt {p n n' a : Nat} (hp : 2 ≤ p) (hn : 1 ≤ n) (h : DivO p n n' a) : 1 ≤ n' ∧ n' ≤ n ∧ a < n := by
  have h1 : 1 ≤ n' := by
    rcases Nat.eq_zero_or_pos n' with h0 | h0
    · have := h.eq; rw [h0, Nat.zero_mul] at this; omega
    · exact h0
  have h2 : a < p ^ a := Nat.lt_pow_self (by omega)
  have h3 : 1 ≤ p ^ a := Nat.one_le_pow _ _ (by omega)
  refine ⟨h1, ?_, ?_⟩
  · rw [h.eq]; exact Nat.le_mul_of_pos_right _ h3
  · have : p ^ a ≤ n' * p ^ a := Nat.le_mul_of_pos_left _ h1
    rw [← h.eq] at this; omega
theorem grow_div {w : Weights} {i : Nat} {p : Nat} (hp : rdD w.Primes (i : Int) 0 = (p : Int)) (h2 : 2 ≤ p) (hL : i < w.Logs.length) {L : Int} (hLv : rdD w.Logs (i : Int) 0 = L) (hLb : -1000 ≤ L ∧ L ≤ 1000) : ∀ (k n : Nat) (sum : Int), 1 ≤ n → n ≤ 1000000 → n < k → -1000000000000000 ≤ sum - 1000 * n → sum + 1000 * n ≤ 1000000000000000 →
    ∃ n' a, weight_grows.l1 k (n : Int) sum w i = some (((n' : Nat) : Int), sum + (a : Nat) * L) ∧ DivO p n n' a
  | 0, n, sum, h1, hn, hk, s1, s2 => by omega
  | k + 1, n, sum, h1, hn, hk, s1, s2 => by
    rw [weight_grows.l1, hp, if_pos (by omega)]
    have e1 : Int.tmod (n : Int) (p : Int) = ((n % p : Nat) : Int) := rfl
    have e2 : Int.tdiv (n : Int) (p : Int) = ((n / p : Nat) : Int) := rfl
    rw [e1, e2, hLv]
    by_cases hd : n % p = 0
    · have hq : n / p * p = n := Nat.div_mul_cancel (Nat.dvd_of_mod_eq_zero hd)
      have hq1 : 1 ≤ n / p := by
        rcases Nat.eq_zero_or_pos (n / p) with h0 | h0
        · rw [h0, Nat.zero_mul] at hq; omega
        · exact h0
      have hq2 : n / p * 2 ≤ n := by
        calc n / p * 2 ≤ n / p * p := Nat.mul_le_mul_left _ h2
          _ = n := hq
      obtain ⟨n', a, g1, g2⟩ := grow_div hp h2 hL hLv hLb k (n / p) (sum + L) hq1 (by omega) (by omega) (by omega) (by omega)
      rw [if_pos (by rw [hd]; rfl), if_pos (by omega), w64_nat (n := n / p) (Nat.le_trans (Nat.div_le_self _ _) (by omega)), w64_id (by omega) (by omega), g1]
      refine ⟨n', a + 1, ?_, ⟨by rw [Nat.pow_succ, ← Nat.mul_assoc, ← g2.eq, hq], g2.no⟩⟩
      rw [show sum + ((a + 1 : Nat) : Int) * L = sum + L + (a : Int) * L by rw [Int.natCast_add, Int.add_mul]; omega]
    · rw [if_neg (by rw [beq_iff_eq]; omega)]
      exact ⟨n, 0, by rw [show sum + ((0 : Nat) : Int) * L = sum by omega], ⟨by simp, fun h => hd (Nat.mod_eq_zero_of_dvd h)⟩⟩
theorem shrink_div {w : Weights} {i : Nat} {p : Nat} (hp : rdD w.Primes (i : Int) 0 = (p : Int)) (h2 : 2 ≤ p) (hL : i < w.Logs.length) {L : Int} (hLv : rdD w.Logs (i : Int) 0 = L) (hLb : -1000 ≤ L ∧ L ≤ 1000) : ∀ (k n : Nat) (sum : Int), 1 ≤ n → n ≤ 1000000 → n < k → -1000000000000000 ≤ sum - 1000 * n → sum + 1000 * n ≤ 1000000000000000 →
    ∃ n' a, weight_grows.l2 k (n : Int) sum w i = some (((n' : Nat) : Int), sum - (a : Nat) * L) ∧ DivO p n n' a
  | 0, n, sum, h1, hn, hk, s1, s2 => by omega
  | k + 1, n, sum, h1, hn, hk, s1, s2 => by
    rw [weight_grows.l2, hp, if_pos (by omega)]
    have e1 : Int.tmod (n : Int) (p : Int) = ((n % p : Nat) : Int) := rfl
    have e2 : Int.tdiv (n : Int) (p : Int) = ((n / p : Nat) : Int) := rfl
    rw [e1, e2, hLv]
    by_cases hd : n % p = 0
    · have hq : n / p * p = n := Nat.div_mul_cancel (Nat.dvd_of_mod_eq_zero hd)
      have hq1 : 1 ≤ n / p := by
        rcases Nat.eq_zero_or_pos (n / p) with h0 | h0
        · rw [h0, Nat.zero_mul] at hq; omega
        · exact h0
      have hq2 : n / p * 2 ≤ n := by
        calc n / p * 2 ≤ n / p * p := Nat.mul_le_mul_left _ h2
          _ = n := hq
      obtain ⟨n', a, g1, g2⟩ := shrink_div hp h2 hL hLv hLb k (n / p) (sum - L) hq1 (by omega) (by omega) (by omega) (by omega)
      rw [if_pos (by rw [hd]; rfl), if_pos (by omega), w64_nat (n := n / p) (Nat.le_trans (Nat.div_le_self _ _) (by omega)), w64_id (by omega) (by omega), g1]
      refine ⟨n', a + 1, ?_, ⟨by rw [Nat.pow_succ, ← Nat.mul_assoc, ← g2.eq, hq], g2.no⟩⟩
      rw [show sum - ((a + 1 : Nat) : Int) * L = sum - L - (a : Int) * L by rw [Int.natCast_add, Int.add_mul]; omega]
    · rw [if_neg (by rw [beq_iff_eq]; omega)]
      exact ⟨n, 0, by rw [show sum - ((0 : Nat) : Int) * L = sum by omega], ⟨by simp, fun h => hd (Nat.mod_eq_zero_of_dvd h)⟩⟩
end Gp
set_option linter.unusedVariables false
set_option linter.unusedSimpArgs false
namespace Gp
open Gw Gq
def pr (w : Weights) (i : Nat) : Nat := (rdD w.Primes (i : Int) 0).toNat
def lg (w : Weights) (i : Nat) : Int := rdD w.Logs (i : Int) 0
structure OKP (w : Weights) : Prop where
  len : w.Primes.length ≤ 12
  ll : w.Logs.length = w.Primes.length
  p : ∀ i, i < w.Primes.length → rdD w.Primes (i : Int) 0 = (pr w i : Int) ∧ 2 ≤ pr w i ∧ pr w i ≤ 1000000
  l : ∀ i, i < w.Primes.length → -1000 ≤ lg w i ∧ lg w i ≤ 1000
def powL (w : Weights) : Nat → List Nat → Nat
  | _, [] => 1
  | i, a :: r => pr w i ^ a * powL w (i + 1) r
def logL (w : Weights) : Nat → List Nat → Int
  | _, [] => 0
  | i, a :: r => (a : Int) * lg w i + logL w (i + 1) r
theorem al_bd {a n : Nat} {L : Int} (ha : a < n) (hn : n ≤ 1000000) (hL : -1000 ≤ L ∧ L ≤ 1000) : -1000000000 ≤ (a : Int) * L ∧ (a : Int) * L ≤ 1000000000 := by
  have h : ((a : Int) * L).natAbs ≤ 1000000 * 1000 := by rw [Int.natAbs_mul]; exact Nat.mul_le_mul (by omega) (by omega)
  omega
theorem grow_l0 {w : Weights} (ok : OKP w) : ∀ (r i k n d : Nat) (sum : Int), i + r = w.Primes.length → r + 1000010 < k → (1 ≤ n ∧ n ≤ 1000000) → (1 ≤ d ∧ d ≤ 1000000) → (-2000000000 * (i : Int) ≤ sum ∧ sum ≤ 2000000000 * (i : Int)) →
    ∃ n' d' : Nat, ∃ xa xb : List Nat, weight_grows.l0 k (n : Int) (d : Int) sum i w = some ((n' : Int), (d' : Int), sum + logL w i xa - logL w i xb) ∧ xa.length = r ∧ xb.length = r ∧ n = n' * powL w i xa ∧ d = d' * powL w i xb
  | 0, i, k, n, d, sum, e, hk, hn, hd, hs => by
    obtain ⟨k, rfl⟩ : ∃ m, k = m + 1 := ⟨k - 1, by omega⟩
    refine ⟨n, d, [], [], ?_, rfl, rfl, by simp [powL], by simp [powL]⟩
    rw [weight_grows.l0, if_neg (by simp; omega)]
    simp [logL]
  | r + 1, i, k, n, d, sum, e, hk, hn, hd, hs => by
    obtain ⟨k, rfl⟩ : ∃ m, k = m + 1 := ⟨k - 1, by omega⟩
    have hlen := ok.len
    have hi : i < w.Primes.length := by omega
    have hwi : w64 ((i : Int) + 1) = ((i + 1 : Nat) : Int) := by rw [w64_id (by omega) (by omega)]; rfl
    obtain ⟨hp, h2, h3⟩ := ok.p i hi
    have hL := ok.l i hi
    obtain ⟨n1, a, e1, dv1⟩ := grow_div hp h2 (by rw [ok.ll]; exact hi) rfl hL k n sum hn.1 hn.2 (by omega) (by omega) (by omega)
    have e1 : weight_grows.l1 k (n : Int) sum w i = some ((n1 : Int), sum + (a : Int) * lg w i) := e1
    obtain ⟨f1, f2, f3⟩ := divo_lt h2 hn.1 dv1
    have b1 := al_bd f3 hn.2 hL
    obtain ⟨d1, b, e2, dv2⟩ := shrink_div hp h2 (by rw [ok.ll]; exact hi) rfl hL k d (sum + (a : Int) * lg w i) hd.1 hd.2 (by omega) (by omega) (by omega)
    have e2 : weight_grows.l2 k (d : Int) (sum + (a : Int) * lg w i) w i = some ((d1 : Int), sum + (a : Int) * lg w i - (b : Int) * lg w i) := e2
    obtain ⟨g1, g2, g3⟩ := divo_lt h2 hd.1 dv2
    have b2 := al_bd g3 hd.2 hL
    obtain ⟨n', d', xa, xb, h4, h5, h6, h7, h8⟩ := grow_l0 ok r (i + 1) k n1 d1 (sum + (a : Int) * lg w i - (b : Int) * lg w i) (by omega) (by omega) ⟨f1, by omega⟩ ⟨g1, by omega⟩ (by omega)
    refine ⟨n', d', a :: xa, b :: xb, ?_, by simp [h5], by simp [h6], ?_, ?_⟩
    · rw [weight_grows.l0, if_pos (by simpa using hi), if_pos (by omega), e1, Option.bind_some]
      simp only
      rw [e2, Option.bind_some]
      simp only
      rw [hwi, h4]
      simp only [logL]
      congr 3
      omega
    · rw [dv1.eq, h7, powL, Nat.mul_assoc, Nat.mul_comm (powL w (i + 1) xa)]
    · rw [dv2.eq, h8, powL, Nat.mul_assoc, Nat.mul_comm (powL w (i + 1) xb)]
def factP (w : Weights) (f : Frac) : Prop := ∃ xa xb : List Nat, xa.length = w.Primes.length ∧ xb.length = w.Primes.length ∧ f.Num * ((powL w 0 xb : Nat) : Int) = f.Den * ((powL w 0 xa : Nat) : Int) ∧ 0 < logL w 0 xa - logL w 0 xb
theorem grows_eq {w : Weights} (ok : OKP w) {f : Frac} (hf : okF f) (h0 : 0 < f.Num) {k : Nat} (hk : 1001000 < k) : ∃ b, weight_grows k f w = some b ∧ (b = true → factP w f) := by
  obtain ⟨n, hn⟩ : ∃ n : Nat, f.Num = n := ⟨f.Num.toNat, by omega⟩
  obtain ⟨d, hd⟩ : ∃ d : Nat, f.Den = d := ⟨f.Den.toNat, by have := hf.2.1; omega⟩
  have n1 : 1 ≤ n ∧ n ≤ 1000000 := by have := hf.1; omega
  have d1 : 1 ≤ d ∧ d ≤ 1000000 := by have := hf.2; omega
  have hlen := ok.len
  have hl := lowest_eq n1 d1 (k := k) (by omega)
  have hg : 0 < Nat.gcd n d := Nat.gcd_pos_of_pos_left _ (by omega)
  have gn := Nat.div_mul_cancel (Nat.gcd_dvd_left n d)
  have gd := Nat.div_mul_cancel (Nat.gcd_dvd_right n d)
  have pos : ∀ x : Nat, 1 ≤ x → x / Nat.gcd n d * Nat.gcd n d = x → 1 ≤ x / Nat.gcd n d := fun x h1 h2 => by
    rcases Nat.eq_zero_or_pos (x / Nat.gcd n d) with h0 | h0
    · rw [h0, Nat.zero_mul] at h2; omega
    · exact h0
  obtain ⟨n', d', xa, xb, e1, e2, e3, e4, e5⟩ := grow_l0 ok w.Primes.length 0 k (n / Nat.gcd n d) (d / Nat.gcd n d) 0 (by omega) (by omega) ⟨pos n n1.1 gn, Nat.le_trans (Nat.div_le_self _ _) n1.2⟩ ⟨pos d d1.1 gd, Nat.le_trans (Nat.div_le_self _ _) d1.2⟩ (by omega)
  have e1 : weight_grows.l0 k ((n / Nat.gcd n d : Nat) : Int) ((d / Nat.gcd n d : Nat) : Int) 0 0 w = some ((n' : Int), (d' : Int), 0 + logL w 0 xa - logL w 0 xb) := e1
  unfold weight_grows
  rw [hn, hd, hl, Option.bind_some]
  simp only
  rw [e1, Option.bind_some]
  refine ⟨_, rfl, fun hb => ?_⟩
  simp only [Bool.and_eq_true, beq_iff_eq, decide_eq_true_eq] at hb
  obtain ⟨⟨hb1, hb2⟩, hb3⟩ := hb
  have q1 : n' = 1 := by omega
  have q2 : d' = 1 := by omega
  rw [q1, Nat.one_mul] at e4
  rw [q2, Nat.one_mul] at e5
  refine ⟨xa, xb, e2, e3, ?_, by omega⟩
  rw [hn, hd, ← e4, ← e5, ← Int.natCast_mul, ← Int.natCast_mul]
  congr 1
  generalize hG : Nat.gcd n d = G at *
  generalize n / G = x at *
  generalize d / G = y at *
  rw [← gn, ← gd, Nat.mul_right_comm, Nat.mul_comm x y, Nat.mul_right_comm]
end Gp
set_option linter.unusedVariables false
set_option linter.unusedSimpArgs false
namespace Gp
open Gw Gq
theorem all_gen (l0 : Nat → Int → List Frac → Option (Sum Int Unit)) (q : Nat → Frac → Option Bool) (heq : ∀ k x l, l0 (k + 1) x l = if (decide (x < (l.length : Int))) = true then (if 0 ≤ x ∧ x < (l.length : Int) then ((q k (rdD l x z_Frac)).bind fun t => if t = true then (some (.inl x)) else (l0 k (w64 (x + 1)) l)) else none) else (some (.inr ())))
    (l : List Frac) (hl : l.length ≤ 100000) (K : Nat) (good : Frac → Prop) (hq : ∀ k, K < k → ∀ f ∈ l, ∃ b, q k f = some b ∧ (b = false → good f)) (hq2 : ∀ k, K < k → ∀ f ∈ l, q k f = some true → ¬ good f ∨ True) : ∀ (d x k : Nat), x + d = l.length → d + K + 1 < k →
    (∃ r : Nat, l0 k x l = some (.inl (r : Int))) ∨ (l0 k x l = some (.inr ()) ∧ ∀ f ∈ l.drop x, good f)
  | 0, x, k, e, hk => by
    obtain ⟨k, rfl⟩ : ∃ m, k = m + 1 := ⟨k - 1, by omega⟩
    right
    refine ⟨by rw [heq, if_neg (by simp; omega)], fun f hf => ?_⟩
    rw [List.drop_of_length_le (by omega)] at hf
    cases hf
  | d + 1, x, k, e, hk => by
    obtain ⟨k, rfl⟩ : ∃ m, k = m + 1 := ⟨k - 1, by omega⟩
    have hx : x < l.length := by omega
    have hwx : w64 ((x : Int) + 1) = ((x + 1 : Nat) : Int) := by rw [w64_id (by omega) (by omega)]; rfl
    obtain ⟨b, h1, h2⟩ := hq k (by omega) l[x] (List.getElem_mem hx)
    rw [heq, if_pos (by simpa using hx), if_pos (by omega), rdD_get hx, h1, Option.bind_some, hwx]
    cases b
    · rw [if_neg (by decide)]
      rcases all_gen l0 q heq l hl K good hq hq2 d (x + 1) k (by omega) (by omega) with h | ⟨h, h3⟩
      · exact .inl h
      · refine .inr ⟨h, fun f hf => ?_⟩
        rw [List.drop_eq_getElem_cons hx] at hf
        rcases List.mem_cons.1 hf with rfl | hf
        · exact h2 rfl
        · exact h3 f hf
    · exact .inl ⟨x, by rw [if_pos rfl]⟩
theorem allfv {l : List Frac} (hl : l.length ≤ 100000) {k : Nat} (hk : l.length + 10 < k) : ∃ b, weight_all_with_weight_fraction_valid k l = some b ∧ (b = true → ∀ f ∈ l, okF f) := by
  have h := all_gen slices_IndexFunc_api_Frac_api_Frac_with_weight_all_1_of_weight_fraction_valid.l0 (fun _ f => weight_all_1_of_weight_fraction_valid f) (fun _ _ _ => rfl) l hl 0 okF (fun k _ f hf => ⟨_, rfl, fun hb => by
    simp only [Bool.not_eq_false', Bool.and_eq_true, decide_eq_true_eq] at hb
    unfold okF; omega⟩) (fun _ _ _ _ _ => .inr trivial) l.length 0 k (by omega) (by omega)
  have h : (∃ r : Nat, slices_IndexFunc_api_Frac_api_Frac_with_weight_all_1_of_weight_fraction_valid.l0 k 0 l = some (.inl (r : Int))) ∨ (slices_IndexFunc_api_Frac_api_Frac_with_weight_all_1_of_weight_fraction_valid.l0 k 0 l = some (.inr ()) ∧ _) := h
  unfold weight_all_with_weight_fraction_valid slices_ContainsFunc_api_Frac_api_Frac_with_weight_all_1_of_weight_fraction_valid slices_IndexFunc_api_Frac_api_Frac_with_weight_all_1_of_weight_fraction_valid
  rcases h with ⟨r, h⟩ | ⟨h, h2⟩
  · rw [h]
    refine ⟨false, ?_, fun h => by cases h⟩
    show some (!decide ((r : Int) ≥ 0)) = _
    rw [decide_eq_true (by omega)]; rfl
  · rw [h]
    exact ⟨true, rfl, fun _ => by rwa [List.drop_zero] at h2⟩
theorem allv1 {l : List Frac} (hl : l.length ≤ 100000) {k : Nat} (hk : l.length + 10 < k) : ∃ b, weight_all_with_weight_Valid_1 k l = some b ∧ (b = true → ∀ f ∈ l, 0 ≤ f.Num) := by
  have h := all_gen slices_IndexFunc_api_Frac_api_Frac_with_weight_all_1_of_weight_Valid_1.l0 (fun _ f => weight_all_1_of_weight_Valid_1 f) (fun _ _ _ => rfl) l hl 0 (fun f => 0 ≤ f.Num) (fun k _ f hf => ⟨_, rfl, fun hb => by
    simp only [Bool.not_eq_false', decide_eq_true_eq] at hb
    omega⟩) (fun _ _ _ _ _ => .inr trivial) l.length 0 k (by omega) (by omega)
  have h : (∃ r : Nat, slices_IndexFunc_api_Frac_api_Frac_with_weight_all_1_of_weight_Valid_1.l0 k 0 l = some (.inl (r : Int))) ∨ (slices_IndexFunc_api_Frac_api_Frac_with_weight_all_1_of_weight_Valid_1.l0 k 0 l = some (.inr ()) ∧ _) := h
  unfold weight_all_with_weight_Valid_1 slices_ContainsFunc_api_Frac_api_Frac_with_weight_all_1_of_weight_Valid_1 slices_IndexFunc_api_Frac_api_Frac_with_weight_all_1_of_weight_Valid_1
  rcases h with ⟨r, h⟩ | ⟨h, h2⟩
  · rw [h]
    refine ⟨false, ?_, fun h => by cases h⟩
    show some (!decide ((r : Int) ≥ 0)) = _
    rw [decide_eq_true (by omega)]; rfl
  · rw [h]
    exact ⟨true, rfl, fun _ => by rwa [List.drop_zero] at h2⟩
theorem allv2 {l : List Frac} (hl : l.length ≤ 100000) {k : Nat} (hk : l.length + 10 < k) : ∃ b, weight_all_with_weight_Valid_2 k l = some b ∧ (b = true → ∀ f ∈ l, 0 < f.Num) := by
  have h := all_gen slices_IndexFunc_api_Frac_api_Frac_with_weight_all_1_of_weight_Valid_2.l0 (fun _ f => weight_all_1_of_weight_Valid_2 f) (fun _ _ _ => rfl) l hl 0 (fun f => 0 < f.Num) (fun k _ f hf => ⟨_, rfl, fun hb => by
    simp only [Bool.not_eq_false', decide_eq_true_eq] at hb
    omega⟩) (fun _ _ _ _ _ => .inr trivial) l.length 0 k (by omega) (by omega)
  have h : (∃ r : Nat, slices_IndexFunc_api_Frac_api_Frac_with_weight_all_1_of_weight_Valid_2.l0 k 0 l = some (.inl (r : Int))) ∨ (slices_IndexFunc_api_Frac_api_Frac_with_weight_all_1_of_weight_Valid_2.l0 k 0 l = some (.inr ()) ∧ _) := h
  unfold weight_all_with_weight_Valid_2 slices_ContainsFunc_api_Frac_api_Frac_with_weight_all_1_of_weight_Valid_2 slices_IndexFunc_api_Frac_api_Frac_with_weight_all_1_of_weight_Valid_2
  rcases h with ⟨r, h⟩ | ⟨h, h2⟩
  · rw [h]
    refine ⟨false, ?_, fun h => by cases h⟩
    show some (!decide ((r : Int) ≥ 0)) = _
    rw [decide_eq_true (by omega)]; rfl
  · rw [h]
    exact ⟨true, rfl, fun _ => by rwa [List.drop_zero] at h2⟩
theorem ck4_eq {s : List Tile} {w : Weights} (ok : OKW s w) (op : OKP w) {k : Nat} (hk : 1010000 < k) : ∃ b, weight_Check_4 k w = some b ∧ (b = true → ∀ f ∈ w.Factors, factP w f) := by
  have hl := ok.len
  have hfl := ok.fl
  have h := all_gen (fun k x l => slices_IndexFunc_api_Frac_api_Frac_with_weight_all_1_of_weight_Check_4_1.l0 k x l w) (fun k f => weight_all_1_of_weight_Check_4_1 k f w) (fun _ _ _ => rfl) w.Factors (by omega) 1001000 (factP w) (fun k hk f hf => by
    obtain ⟨b, h1, h2⟩ := grows_eq op (ok.okf f hf).1 (ok.okf f hf).2 (k := k) hk
    refine ⟨!b, ?_, fun hb => h2 (by simpa using hb)⟩
    show ((weight_grows k (Frac.mk f.Num f.Den) w).bind _ |>.bind _) = _
    have h1 : weight_grows k (Frac.mk f.Num f.Den) w = some b := h1
    rw [h1]; rfl) (fun _ _ _ _ _ => .inr trivial) w.Factors.length 0 k (by omega) (by omega)
  have h : (∃ r : Nat, slices_IndexFunc_api_Frac_api_Frac_with_weight_all_1_of_weight_Check_4_1.l0 k 0 w.Factors w = some (.inl (r : Int))) ∨ (slices_IndexFunc_api_Frac_api_Frac_with_weight_all_1_of_weight_Check_4_1.l0 k 0 w.Factors w = some (.inr ()) ∧ _) := h
  unfold weight_Check_4 weight_all_with_weight_Check_4_1 slices_ContainsFunc_api_Frac_api_Frac_with_weight_all_1_of_weight_Check_4_1 slices_IndexFunc_api_Frac_api_Frac_with_weight_all_1_of_weight_Check_4_1
  rcases h with ⟨r, h⟩ | ⟨h, h2⟩
  · rw [h]
    refine ⟨false, ?_, fun h => by cases h⟩
    show some (!decide ((r : Int) ≥ 0)) = _
    rw [decide_eq_true (by omega)]; rfl
  · rw [h]
    exact ⟨true, rfl, fun _ => by rwa [List.drop_zero] at h2⟩
end Gp
set_option linter.unusedVariables false
set_option linter.unusedSimpArgs false
namespace Gp
open Gw Gq
theorem maxI_eq (a b : Int) : maxI a b = max a b := by unfold maxI; omega
theorem need_l0 {s : List Tile} (hl : s.length ≤ 1000) (hc : ∀ i, i < s.length → (0 ≤ (tw s i).N ∧ (tw s i).N < 1000) ∧ (0 ≤ (tw s i).E ∧ (tw s i).E < 1000) ∧ (0 ≤ (tw s i).S ∧ (tw s i).S < 1000) ∧ (0 ≤ (tw s i).W ∧ (tw s i).W < 1000)) : ∀ (d x k : Nat) (v c : Int), x + d = s.length → d < k → (0 ≤ v ∧ v ≤ 1000) → (0 ≤ c ∧ c ≤ 1000) → (∀ j, j < x → (tw s j).N < v ∧ (tw s j).S < v ∧ (tw s j).E < c ∧ (tw s j).W < c) →
    ∃ v' c', weight_needed.l0 k v c x s = some (v', c') ∧ (0 ≤ v' ∧ v' ≤ 1000) ∧ (0 ≤ c' ∧ c' ≤ 1000) ∧ ∀ j, j < s.length → (tw s j).N < v' ∧ (tw s j).S < v' ∧ (tw s j).E < c' ∧ (tw s j).W < c'
  | 0, x, k, v, c, e, hk, hv, hcc, h => by
    obtain ⟨k, rfl⟩ : ∃ m, k = m + 1 := ⟨k - 1, by omega⟩
    exact ⟨v, c, by rw [weight_needed.l0, if_neg (by simp; omega)], hv, hcc, fun j hj => h j (by omega)⟩
  | d + 1, x, k, v, c, e, hk, hv, hcc, h => by
    obtain ⟨k, rfl⟩ : ∃ m, k = m + 1 := ⟨k - 1, by omega⟩
    have hx : x < s.length := by omega
    have hwx : w64 ((x : Int) + 1) = ((x + 1 : Nat) : Int) := by rw [w64_id (by omega) (by omega)]; rfl
    obtain ⟨⟨n0, n1⟩, ⟨eq0, e1⟩, ⟨s0, s1⟩, ⟨w0, w1⟩⟩ := hc x hx
    have wn : w64 ((rdD s (x : Int) z_Tile).N + 1) = (tw s x).N + 1 := w64_id (n := (tw s x).N + 1) (by omega) (by omega)
    have ws : w64 ((rdD s (x : Int) z_Tile).S + 1) = (tw s x).S + 1 := w64_id (n := (tw s x).S + 1) (by omega) (by omega)
    have we : w64 ((rdD s (x : Int) z_Tile).E + 1) = (tw s x).E + 1 := w64_id (n := (tw s x).E + 1) (by omega) (by omega)
    have ww : w64 ((rdD s (x : Int) z_Tile).W + 1) = (tw s x).W + 1 := w64_id (n := (tw s x).W + 1) (by omega) (by omega)
    rw [weight_needed.l0, if_pos (by simpa using hx), if_pos (by omega), hwx, wn, ws, we, ww, maxI_eq, maxI_eq, maxI_eq, maxI_eq]
    refine need_l0 hl hc d (x + 1) k _ _ (by omega) (by omega) (by omega) (by omega) fun j hj => ?_
    by_cases ej : j = x
    · subst ej; omega
    · have := h j (by omega); omega
theorem need_eq {s : List Tile} (hl : s.length ≤ 1000) (hc : ∀ i, i < s.length → (0 ≤ (tw s i).N ∧ (tw s i).N < 1000) ∧ (0 ≤ (tw s i).E ∧ (tw s i).E < 1000) ∧ (0 ≤ (tw s i).S ∧ (tw s i).S < 1000) ∧ (0 ≤ (tw s i).W ∧ (tw s i).W < 1000)) {k : Nat} (hk : 2000 < k) :
    ∃ v' c', weight_needed k s = some (v', c') ∧ (0 ≤ v' ∧ v' ≤ 1000) ∧ (0 ≤ c' ∧ c' ≤ 1000) ∧ ∀ j, j < s.length → (tw s j).N < v' ∧ (tw s j).S < v' ∧ (tw s j).E < c' ∧ (tw s j).W < c' := by
  obtain ⟨v, c, h1, h2⟩ := need_l0 hl hc s.length 0 k 0 0 (by omega) (by omega) (by omega) (by omega) (fun j hj => by omega)
  have h1 : weight_needed.l0 k 0 0 0 s = _ := h1
  refine ⟨v, c, ?_, h2⟩
  unfold weight_needed
  rw [h1]; rfl
def isP (p : Nat) : Prop := ∀ d, 2 ≤ d → d * d ≤ p → ¬ d ∣ p
theorem prime_l0 {p : Nat} (hp : p ≤ 1000000) : ∀ (k d : Nat), 2 ≤ d → d ≤ 1001 → 1002 - d < k → (∀ e, 2 ≤ e → e < d → ¬ e ∣ p) → weight_prime.l0 k (d : Int) (p : Int) = some (.inl false) ∨ (weight_prime.l0 k (d : Int) (p : Int) = some (.inr ()) ∧ isP p)
  | 0, d, h2, h3, hk, h => by omega
  | k + 1, d, h2, h3, hk, h => by
    have hdd : d * d ≤ 1001 * 1001 := Nat.mul_le_mul h3 h3
    have hw : w64 ((d : Int) * (d : Int)) = ((d * d : Nat) : Int) := by rw [← Int.natCast_mul]; exact w64_nat (by omega)
    have hwd : w64 ((d : Int) + 1) = ((d + 1 : Nat) : Int) := by rw [w64_id (by omega) (by omega)]; rfl
    have em : Int.tmod (p : Int) (d : Int) = ((p % d : Nat) : Int) := rfl
    rw [weight_prime.l0, hw, hwd, em]
    by_cases hle : d * d ≤ p
    · rw [if_pos (by rw [decide_eq_true_eq]; omega), if_pos (by omega)]
      by_cases hm : p % d = 0
      · left; rw [if_pos (by rw [hm]; rfl)]
      · rw [if_neg (by rw [beq_iff_eq]; omega)]
        have hd1 : d ≤ 1000 := by
          rcases Nat.lt_or_ge 1000 d with h5 | h5
          · exfalso
            have : 1001 * 1001 ≤ d * d := Nat.mul_le_mul h5 h5
            omega
          · exact h5
        exact prime_l0 hp k (d + 1) (by omega) (by omega) (by omega) fun e h5 h6 h7 => by
          by_cases e2 : e = d
          · subst e2; exact hm (Nat.mod_eq_zero_of_dvd h7)
          · exact h e h5 (by omega) h7
    · rw [if_neg (by rw [decide_eq_true_eq]; omega)]
      refine .inr ⟨rfl, fun e h5 h6 => h e h5 ?_⟩
      rcases Nat.lt_or_ge e d with h7 | h7
      · exact h7
      · exfalso
        have : d * d ≤ e * e := Nat.mul_le_mul h7 h7
        omega
theorem prime_eq {p : Nat} (h2 : 2 ≤ p) (hp : p ≤ 1000000) {k : Nat} (hk : 2000 < k) : ∃ b, weight_prime k (p : Int) = some b ∧ (b = true → isP p) := by
  unfold weight_prime
  rcases prime_l0 hp k 2 (by omega) (by omega) (by omega) (fun e h5 h6 => by omega) with h | ⟨h, h3⟩
  · have h : weight_prime.l0 k 2 (p : Int) = _ := h
    exact ⟨false, by rw [h]; rfl, fun h => by cases h⟩
  · have h : weight_prime.l0 k 2 (p : Int) = _ := h
    refine ⟨true, ?_, fun _ => h3⟩
    rw [h]
    show some (decide ((p : Int) ≥ 2)) = _
    rw [decide_eq_true (by omega)]
theorem coprime_of {p q : Nat} (hp : isP p) (hq : isP q) (p2 : 2 ≤ p) (q2 : 2 ≤ q) (hne : p ≠ q) : Nat.Coprime p q := by
  have key : ∀ p, isP p → 2 ≤ p → ∀ d, 2 ≤ d → d ∣ p → d = p := fun p hp p2 d hd h => by
    obtain ⟨e, rfl⟩ := h
    by_cases he : e ≤ 1
    · have : e = 1 := by
        rcases Nat.eq_zero_or_pos e with h0 | h0
        · subst h0; omega
        · omega
      rw [this, Nat.mul_one]
    · exfalso
      rcases Nat.le_total d e with h1 | h1
      · exact hp d hd (Nat.mul_le_mul_left _ h1) ⟨e, rfl⟩
      · exact hp e (by omega) (by rw [Nat.mul_comm d e]; exact Nat.mul_le_mul_left _ h1) ⟨d, Nat.mul_comm d e⟩
  have hg : Nat.gcd p q = 1 ∨ 2 ≤ Nat.gcd p q := by
    have : 0 < Nat.gcd p q := Nat.gcd_pos_of_pos_left _ (by omega)
    omega
  rcases hg with h | h
  · exact h
  · exact absurd ((key p hp p2 _ h (Nat.gcd_dvd_left p q)).symm.trans (key q hq q2 _ h (Nat.gcd_dvd_right p q))) hne
end Gp
set_option linter.unusedVariables false
set_option linter.unusedSimpArgs false
namespace Gp
open Gw Gq
theorem index_l0 {l : List Int} (hl : l.length ≤ 100000) (p : Int) : ∀ (d x k : Nat), x + d = l.length → d < k → (∃ r : Nat, slices_Index_int_int.l0 k x l p = some (.inl (r : Int))) ∨ (slices_Index_int_int.l0 k x l p = some (.inr ()) ∧ ∀ y ∈ l.drop x, y ≠ p)
  | 0, x, k, e, hk => by
    obtain ⟨k, rfl⟩ : ∃ m, k = m + 1 := ⟨k - 1, by omega⟩
    refine .inr ⟨by rw [slices_Index_int_int.l0, if_neg (by simp; omega)], fun y hy => ?_⟩
    rw [List.drop_of_length_le (by omega)] at hy
    cases hy
  | d + 1, x, k, e, hk => by
    obtain ⟨k, rfl⟩ : ∃ m, k = m + 1 := ⟨k - 1, by omega⟩
    have hx : x < l.length := by omega
    have hwx : w64 ((x : Int) + 1) = ((x + 1 : Nat) : Int) := by rw [w64_id (by omega) (by omega)]; rfl
    rw [slices_Index_int_int.l0, if_pos (by simpa using hx), if_pos (by omega), rdD_get hx, hwx]
    by_cases he : p = l[x]
    · exact .inl ⟨x, by rw [if_pos (by simpa using he)]⟩
    · rw [if_neg (by simpa using he)]
      rcases index_l0 hl p d (x + 1) k (by omega) (by omega) with h | ⟨h1, h2⟩
      · exact .inl h
      · refine .inr ⟨h1, fun y hy => ?_⟩
        rw [List.drop_eq_getElem_cons hx] at hy
        rcases List.mem_cons.1 hy with rfl | hy
        · exact fun e => he e.symm
        · exact h2 y hy
theorem contains_eq {l : List Int} (hl : l.length ≤ 100000) (p : Int) {k : Nat} (hk : l.length < k) : ∃ b, slices_Contains_int_int k l p = some b ∧ (b = false → ∀ y ∈ l, y ≠ p) := by
  have h := index_l0 hl p l.length 0 k (by omega) (by omega)
  have h : (∃ r : Nat, slices_Index_int_int.l0 k 0 l p = some (.inl (r : Int))) ∨ (slices_Index_int_int.l0 k 0 l p = some (.inr ()) ∧ _) := h
  unfold slices_Contains_int_int slices_Index_int_int
  rcases h with ⟨r, h⟩ | ⟨h, h2⟩
  · rw [h]
    refine ⟨true, ?_, fun h => by cases h⟩
    show some (decide ((r : Int) ≥ 0)) = _
    rw [decide_eq_true (by omega)]
  · rw [h]
    exact ⟨false, rfl, fun _ => by rwa [List.drop_zero] at h2⟩
def okI (w : Weights) (i : Nat) : Prop := ∃ p : Nat, rdD w.Primes (i : Int) 0 = (p : Int) ∧ (2 ≤ p ∧ p ≤ 1000000) ∧ isP p ∧ (∀ j, j < i → rdD w.Primes (j : Int) 0 ≠ (p : Int)) ∧ (-1000 ≤ lg w i ∧ lg w i ≤ 1000)
theorem val_l0 {w : Weights} (hl : w.Primes.length ≤ 12) (hll : w.Logs.length = w.Primes.length) : ∀ (d i k : Nat), i + d = w.Primes.length → d + 3000 < k → weight_Valid.l0 k i w = some (.inl false) ∨ (weight_Valid.l0 k i w = some (.inr ()) ∧ ∀ j, i ≤ j → j < w.Primes.length → okI w j)
  | 0, i, k, e, hk => by
    obtain ⟨k, rfl⟩ : ∃ m, k = m + 1 := ⟨k - 1, by omega⟩
    exact .inr ⟨by rw [weight_Valid.l0, if_neg (by simp; omega)], fun j h1 h2 => by omega⟩
  | d + 1, i, k, e, hk => by
    obtain ⟨k, rfl⟩ : ∃ m, k = m + 1 := ⟨k - 1, by omega⟩
    have hi : i < w.Primes.length := by omega
    have hwi : w64 ((i : Int) + 1) = ((i + 1 : Nat) : Int) := by rw [w64_id (by omega) (by omega)]; rfl
    have hL : 0 ≤ (i : Int) ∧ (i : Int) < (w.Logs.length : Int) := by rw [hll]; omega
    have hc : 0 ≤ (0 : Int) ∧ (0 : Int) ≤ (i : Int) ∧ (i : Int) ≤ (w.Primes.length : Int) := by omega
    rw [weight_Valid.l0, if_pos (by simpa using hi), if_pos (by omega), hwi]
    simp only [if_pos hL, if_pos hc]
    by_cases hr : rdD w.Primes (i : Int) 0 < 2 ∨ rdD w.Primes (i : Int) 0 > 1000000
    · left
      rw [if_pos (by rw [Bool.or_eq_true, decide_eq_true_eq, decide_eq_true_eq]; exact hr)]; rfl
    · rw [if_neg (by rw [Bool.or_eq_true, decide_eq_true_eq, decide_eq_true_eq]; exact hr)]
      obtain ⟨p, hp⟩ : ∃ p : Nat, rdD w.Primes (i : Int) 0 = p := ⟨(rdD w.Primes (i : Int) 0).toNat, by omega⟩
      rw [hp] at hr ⊢
      obtain ⟨b, h1, h2⟩ := prime_eq (p := p) (by omega) (by omega) (k := k) (by omega)
      obtain ⟨c, h3, h4⟩ := contains_eq (l := cut w.Primes 0 (i : Int)) (by rw [cut_length (by omega) (by omega) (by omega)]; omega) (p : Int) (k := k) (by rw [cut_length (by omega) (by omega) (by omega)]; omega)
      rw [h1, Option.bind_some, h3]
      cases b
      · left; rfl
      cases c
      rotate_left
      · left; rfl
      by_cases hg : rdD w.Logs (i : Int) 0 < -1000
      · left
        rw [decide_eq_true hg]; rfl
      by_cases hg2 : rdD w.Logs (i : Int) 0 > 1000
      · left
        rw [decide_eq_false hg, decide_eq_true hg2]; rfl
      rw [decide_eq_false hg, decide_eq_false hg2]
      rcases val_l0 hl hll d (i + 1) k (by omega) (by omega) with h | ⟨h, h5⟩
      · exact .inl h
      · refine .inr ⟨h, fun j h6 h7 => ?_⟩
        by_cases ej : j = i
        · subst ej
          refine ⟨p, hp, by omega, h2 rfl, fun j' h8 => ?_, by show -1000 ≤ rdD w.Logs (j : Int) 0 ∧ rdD w.Logs (j : Int) 0 ≤ 1000; omega⟩
          refine h4 rfl _ ?_
          have hj' : j' < w.Primes.length := by omega
          rw [rdD_get hj']
          unfold cut
          rw [show ((0 : Int).toNat) = 0 by rfl, List.drop_zero, Int.toNat_natCast, Nat.sub_zero]
          have hlt : j' < (w.Primes.take j).length := by rw [List.length_take]; omega
          have : (w.Primes.take j)[j'] = w.Primes[j'] := List.getElem_take
          rw [← this]; exact List.getElem_mem hlt
        · exact h5 j (by omega) h7
end Gp
set_option linter.unusedVariables false
set_option linter.unusedSimpArgs false
namespace Gp
open Gw Gq
theorem vT_iff (s : List Tile) : validT s = true ↔ s.length ≤ 1000 ∧ s.Nodup ∧ ∀ t ∈ s, colB t = true := by
  unfold validT
  simp only [Bool.and_eq_true, decide_eq_true_eq, List.all_eq_true, List.mem_range]
  have hg : ∀ i (h : i < s.length), s.getD i z_Tile = s[i] := fun i h => by simp [List.getElem?_eq_getElem h]
  refine and_congr_right fun _ => ⟨fun h => ⟨?_, fun t ht => ?_⟩, fun h i hi => ?_⟩
  · rw [List.Nodup, List.pairwise_iff_getElem]
    intro i j hi hj hij he
    have := h j hj
    unfold newB at this
    rw [hg j hj, Bool.and_eq_true, Bool.not_eq_true', decide_eq_false_iff_not] at this
    exact this.1 (by rw [← he]; exact List.mem_take_iff_getElem.2 ⟨i, by omega, rfl⟩)
  · obtain ⟨i, hi, rfl⟩ := List.getElem_of_mem ht
    have := h i hi
    unfold newB at this
    rw [hg i hi, Bool.and_eq_true] at this
    exact this.2
  · unfold newB
    rw [hg i hi, h.2 _ (List.getElem_mem hi), Bool.and_true, Bool.not_eq_true', decide_eq_false_iff_not]
    intro hm
    obtain ⟨j, hj, he⟩ := List.mem_take_iff_getElem.1 hm
    have := h.1
    rw [List.Nodup, List.pairwise_iff_getElem] at this
    exact this j i (by omega) hi (by omega) he
theorem vT_col {s : List Tile} (hv : validT s = true) : ∀ i, i < s.length → (0 ≤ (tw s i).N ∧ (tw s i).N < 1000) ∧ (0 ≤ (tw s i).E ∧ (tw s i).E < 1000) ∧ (0 ≤ (tw s i).S ∧ (tw s i).S < 1000) ∧ (0 ≤ (tw s i).W ∧ (tw s i).W < 1000) := fun i hi => by
  have := ((vT_iff s).1 hv).2.2 s[i] (List.getElem_mem hi)
  rw [tw_get hi]
  unfold colB inCol at this
  simp only [Bool.and_eq_true, decide_eq_true_eq] at this
  omega
def coP (w : Weights) : Prop := ∀ i j, i < w.Primes.length → j < w.Primes.length → i ≠ j → Nat.Coprime (pr w i) (pr w j)
theorem okI_all {w : Weights} (hl : w.Primes.length ≤ 12) (hll : w.Logs.length = w.Primes.length) (h : ∀ j, j < w.Primes.length → okI w j) : OKP w ∧ coP w := by
  have hpr : ∀ i, i < w.Primes.length → ∀ p : Nat, rdD w.Primes (i : Int) 0 = (p : Int) → pr w i = p := fun i _ p hp => by unfold pr; rw [hp]; rfl
  refine ⟨⟨hl, hll, fun i hi => ?_, fun i hi => ?_⟩, fun i j hi hj hne => ?_⟩
  · obtain ⟨p, h1, h2, _⟩ := h i hi
    rw [hpr i hi p h1]
    exact ⟨h1, h2⟩
  · obtain ⟨p, _, _, _, _, h5⟩ := h i hi
    exact h5
  · obtain ⟨p, h1, h2, h3, h4, _⟩ := h i hi
    obtain ⟨q, g1, g2, g3, g4, _⟩ := h j hj
    rw [hpr i hi p h1, hpr j hj q g1]
    refine coprime_of h3 g3 h2.1 g2.1 fun e => ?_
    rcases Nat.lt_or_gt_of_ne hne with hlt | hlt
    · exact g4 i hlt (by rw [h1, e])
    · exact h4 j hlt (by rw [g1, ← e])
theorem valid_eq {s : List Tile} {w : Weights} (hs : s.length ≤ 9223372036854775807) {k : Nat} (hk : 100000 < k) : ∃ b, weight_Valid k s w = some b ∧ (b = true → validT s = true ∧ OKW s w ∧ OKP w ∧ coP w) := by
  unfold weight_Valid
  rw [tile_valid s (by omega) hs, Option.bind_some]
  cases hv : validT s
  · exact ⟨false, rfl, fun h => by cases h⟩
  rw [if_neg (by decide)]
  have hl : s.length ≤ 1000 := ((vT_iff s).1 hv).1
  have hcol := vT_col hv
  obtain ⟨v, c, n1, n2, n3, n4⟩ := need_eq hl hcol (k := k) (by omega)
  rw [n1, Option.bind_some]
  simp only
  by_cases hlen : (((((w.Values.length : Int) != v) || ((w.Carries.length : Int) != c)) || ((w.Factors.length : Int) != (s.length : Int))) || (decide ((w.Primes.length : Int) > 12)) || ((w.Logs.length : Int) != (w.Primes.length : Int))) = true
  · exact ⟨false, by rw [if_pos hlen], fun h => by cases h⟩
  rw [if_neg hlen]
  simp only [Bool.or_eq_true, bne_iff_ne, ne_eq, decide_eq_true_eq, not_or, Decidable.not_not] at hlen
  obtain ⟨⟨⟨⟨l1, l2⟩, l3⟩, l4⟩, l5⟩ := hlen
  obtain ⟨b1, p1, q1⟩ := allfv (l := w.Values) (by omega) (k := k) (by omega)
  obtain ⟨b2, p2, q2⟩ := allfv (l := w.Carries) (by omega) (k := k) (by omega)
  obtain ⟨b3, p3, q3⟩ := allfv (l := w.Factors) (by omega) (k := k) (by omega)
  obtain ⟨b4, p4, q4⟩ := allv1 (l := w.Values) (by omega) (k := k) (by omega)
  obtain ⟨b5, p5, q5⟩ := allv2 (l := w.Factors) (by omega) (k := k) (by omega)
  rw [p1, p2, p3, p4, p5]
  cases b1
  · exact ⟨false, rfl, fun h => by cases h⟩
  cases b2
  · exact ⟨false, rfl, fun h => by cases h⟩
  cases b3
  · exact ⟨false, rfl, fun h => by cases h⟩
  cases b4
  · exact ⟨false, rfl, fun h => by cases h⟩
  cases b5
  · exact ⟨false, rfl, fun h => by cases h⟩
  have l0 := val_l0 (w := w) (by omega) (by omega) w.Primes.length 0 k (by omega) (by omega)
  have l0 : weight_Valid.l0 k 0 w = some (.inl false) ∨ (weight_Valid.l0 k 0 w = some (.inr ()) ∧ _) := l0
  show ∃ b, ((weight_Valid.l0 k 0 w).bind _) = some b ∧ _
  rcases l0 with h | ⟨h, h2⟩
  · rw [h]; exact ⟨false, rfl, fun h => by cases h⟩
  · rw [h]
    refine ⟨true, rfl, fun _ => ⟨by first | rfl | trivial, ⟨hl, fun i hi => ?_, fun i hi => ?_, fun i hi => ?_, fun i hi => ?_, by omega, fun f hf => ⟨q1 rfl f hf, q4 rfl f hf⟩, q2 rfl, fun f hf => ⟨q3 rfl f hf, q5 rfl f hf⟩⟩, okI_all (by omega) (by omega) fun j hj => h2 j (by omega) hj⟩⟩
    · have := n4 i hi; have := hcol i hi; omega
    · have := n4 i hi; have := hcol i hi; omega
    · have := n4 i hi; have := hcol i hi; omega
    · have := n4 i hi; have := hcol i hi; omega
structure Checked (s : List Tile) (w : Weights) : Prop where
  valid : validT s = true
  ok : OKW s w
  op : OKP w
  co : coP w
  bal : (List.range s.length).all (balT s w) = true
  pairs : pairsF s w
  cyc : noCyc (zeroT s w)
  fact : ∀ f ∈ w.Factors, factP w f
theorem wchk_eq {s : List Tile} {w : Weights} (hs : s.length ≤ 9223372036854775807) {k : Nat} (hk : 4294990000 < k) : ∃ b e, weight_Check k s w = some (b, e) ∧ (b = true → e = 0 → Checked s w) := by
  obtain ⟨k, rfl⟩ : ∃ k', k = k' + 5 := ⟨k - 5, by omega⟩
  obtain ⟨v, h1, h2⟩ := valid_eq (w := w) hs (k := k + 5) (by omega)
  unfold weight_Check
  rw [h1, Option.bind_some]
  cases v
  · exact ⟨false, 1, rfl, fun h => by cases h⟩
  obtain ⟨hv, ok, op, co⟩ := h2 rfl
  rw [if_neg (by decide)]
  have w1 : w64 ((0 : Int) + 1) = 1 := by decide
  have w2 : w64 ((1 : Int) + 1) = 2 := by decide
  have w3 : w64 ((2 : Int) + 1) = 3 := by decide
  have w4 : w64 ((3 : Int) + 1) = 4 := by decide
  have c1 := ck1_eq ok (k := k + 4) (by omega)
  obtain ⟨b2, c2, d2⟩ := ck2_eq ok (k := k + 3) (by omega)
  obtain ⟨b3, c3, d3⟩ := ck3_eq ok (k := k + 2) (by omega)
  obtain ⟨b4, c4, d4⟩ := ck4_eq ok op (k := k + 1) (by omega)
  have r0 : weight_Check.l0 (k + 5) 0 s w = (weight_Check_1 (k + 4) s w).bind fun t => if (!t) = true then (some (.inl (false, 0))) else (weight_Check.l0 (k + 4) (w64 (0 + 1)) s w) := rfl
  have r1 : weight_Check.l0 (k + 4) 1 s w = (weight_Check_2 (k + 3) s w).bind fun t => if (!t) = true then (some (.inl (false, 0))) else (weight_Check.l0 (k + 3) (w64 (1 + 1)) s w) := rfl
  have r2 : weight_Check.l0 (k + 3) 2 s w = (weight_Check_3 (k + 2) s w).bind fun t => if (!t) = true then (some (.inl (false, 0))) else (weight_Check.l0 (k + 2) (w64 (2 + 1)) s w) := rfl
  have r3 : weight_Check.l0 (k + 2) 3 s w = (weight_Check_4 (k + 1) w).bind fun t => if (!t) = true then (some (.inl (false, 0))) else (weight_Check.l0 (k + 1) (w64 (3 + 1)) s w) := rfl
  have r4 : weight_Check.l0 (k + 1) 4 s w = some (.inr ()) := rfl
  rw [r0, c1, Option.bind_some, w1]
  cases hb1 : (List.range s.length).all (balT s w)
  · exact ⟨false, 0, rfl, fun h => by cases h⟩
  rw [if_neg (by decide), r1, c2, Option.bind_some, w2]
  cases b2
  · exact ⟨false, 0, rfl, fun h => by cases h⟩
  rw [if_neg (by decide), r2, c3, Option.bind_some, w3]
  cases b3
  · exact ⟨false, 0, rfl, fun h => by cases h⟩
  rw [if_neg (by decide), r3, c4, Option.bind_some, w4]
  cases b4
  · exact ⟨false, 0, rfl, fun h => by cases h⟩
  rw [if_neg (by decide), r4]
  exact ⟨true, 0, rfl, fun _ _ => ⟨hv, ok, op, co, hb1, d2.1 rfl, d3.1 rfl, d4 rfl⟩⟩
end Gp
set_option linter.unusedVariables false
set_option linter.unusedSimpArgs false
namespace Gp
open Gw Gq
theorem val_bal {fn fd sn sd wn wd nn nd en ed : Rat} (h1 : fd ≠ 0) (h2 : sd ≠ 0) (h3 : wd ≠ 0) (h4 : nd ≠ 0) (h5 : ed ≠ 0) (h : fn * sn * wd * nd * ed + wn * fd * sd * nd * ed - nn * fd * sd * wd * ed - en * fd * sd * wd * nd = 0) : fn / fd * (sn / sd) + wn / wd = nn / nd + en / ed := by grind
theorem val_eqv {an ad bn bd : Rat} (h1 : ad ≠ 0) (h2 : bd ≠ 0) (h : an * bd = bn * ad) : an / ad = bn / bd := by grind
theorem val_pow {fn fd a b : Rat} (h1 : fd ≠ 0) (h : fn * b = fd * a) : fn / fd * b = a := by grind
def vl (f : Frac) : Rat := (f.Num : Rat) / (f.Den : Rat)
theorem den_ne {f : Frac} (h : okF f) : (f.Den : Rat) ≠ 0 := fun e => by
  have : f.Den = 0 := Rat.intCast_inj.1 (by rw [e]; rfl)
  have := h.2.1
  omega
theorem bal_vl {f s w n e : Frac} (hf : okF f) (hs : okF s) (hw : okF w) (hn : okF n) (he : okF e) (h : balD f s w n e = 0) : vl f * vl s + vl w = vl n + vl e := by
  unfold vl
  refine val_bal (den_ne hf) (den_ne hs) (den_ne hw) (den_ne hn) (den_ne he) ?_
  unfold balD at h
  have h2 := congrArg (fun z : Int => (z : Rat)) h
  simp only [Rat.intCast_sub, Rat.intCast_add, Rat.intCast_mul] at h2
  rw [h2]; rfl
theorem eqF_vl {a b : Frac} (ha : okF a) (hb : okF b) (h : eqF a b = true) : vl a = vl b := by
  unfold eqF at h
  rw [decide_eq_true_eq] at h
  unfold vl
  refine val_eqv (den_ne ha) (den_ne hb) ?_
  have h2 := congrArg (fun z : Int => (z : Rat)) h
  simpa only [Rat.intCast_mul] using h2
theorem vl_nn {f : Frac} (hf : okF f) (h : 0 ≤ f.Num) : 0 ≤ vl f ∧ (vl f = 0 → f.Num = 0) := by
  have hd : (0 : Rat) < (f.Den : Rat) := by
    have := hf.2.1
    exact_mod_cast (show (0 : Int) < f.Den by omega)
  have hn : (0 : Rat) ≤ (f.Num : Rat) := by exact_mod_cast h
  have hm : vl f * (f.Den : Rat) = (f.Num : Rat) := by
    unfold vl
    have := den_ne hf
    grind
  refine ⟨?_, fun h0 => ?_⟩
  · exact Rat.le_of_mul_le_mul_right (by rw [Rat.zero_mul, hm]; exact hn) hd
  · rw [h0, Rat.zero_mul] at hm
    exact Rat.intCast_inj.1 (by rw [← hm]; rfl)
/-! powers of numbers without common divisors -/
theorem co_powL {w : Weights} (co : coP w) {i : Nat} : ∀ (l : List Nat) (j : Nat), i < j → j + l.length = w.Primes.length → Nat.Coprime (pr w i) (powL w j l)
  | [], j, h, e => Nat.coprime_one_right _
  | a :: r, j, h, e => by
    rw [List.length_cons] at e
    rw [powL]
    exact Nat.Coprime.mul_right (Nat.Coprime.pow_right _ (co i j (by omega) (by omega) (by omega))) (co_powL co r (j + 1) (by omega) (by omega))
theorem pow_uniq {p a b X Y : Nat} (hp : 2 ≤ p) (hX : Nat.Coprime p X) (hY : Nat.Coprime p Y) (h : p ^ a * X = p ^ b * Y) : a = b := by
  have key : ∀ a b X Y : Nat, Nat.Coprime p X → p ^ a * X = p ^ b * Y → ¬ a < b := fun a b X Y hX h hab => by
    obtain ⟨c, rfl⟩ : ∃ c, b = a + (c + 1) := ⟨b - a - 1, by omega⟩
    rw [Nat.pow_add, Nat.mul_assoc] at h
    have h1 := Nat.eq_of_mul_eq_mul_left (Nat.pow_pos (by omega)) h
    have h2 : p ∣ X := ⟨p ^ c * Y, by rw [h1, Nat.pow_succ, Nat.mul_comm (p ^ c) p, Nat.mul_assoc]⟩
    have h3 : p = 1 := Nat.Coprime.eq_one_of_dvd hX h2
    omega
  have h1 := key a b X Y hX h
  have h2 := key b a Y X hY h.symm
  omega
theorem powL_inj {w : Weights} (op : OKP w) (co : coP w) : ∀ (xa xb : List Nat) (j : Nat), j + xa.length = w.Primes.length → xb.length = xa.length → powL w j xa = powL w j xb → xa = xb
  | [], xb, j, e, hl, h => (List.eq_nil_of_length_eq_zero hl).symm
  | a :: r, [], j, e, hl, h => by cases hl
  | a :: r, b :: q, j, e, hl, h => by
    rw [List.length_cons] at e hl
    rw [List.length_cons] at hl
    rw [powL, powL] at h
    have hp := (op.p j (by omega)).2.1
    have hab := pow_uniq hp (co_powL co r (j + 1) (by omega) (by omega)) (co_powL co q (j + 1) (by omega) (by omega)) h
    subst hab
    rw [powL_inj op co r q (j + 1) (by omega) (by omega) (Nat.eq_of_mul_eq_mul_left (Nat.pow_pos (by omega)) h)]
def addL (a b : List Nat) : List Nat := List.zipWith (· + ·) a b
theorem powL_add {w : Weights} : ∀ (a b : List Nat) (j : Nat), a.length = b.length → powL w j (addL a b) = powL w j a * powL w j b
  | [], [], j, h => rfl
  | [], _ :: _, j, h => by cases h
  | _ :: _, [], j, h => by cases h
  | x :: a, y :: b, j, h => by
    have ih := powL_add (w := w) a b (j + 1) (by simpa using h)
    show pr w j ^ (x + y) * powL w (j + 1) (addL a b) = _
    rw [ih, powL, powL, Nat.pow_add, Nat.mul_mul_mul_comm]
theorem logL_add {w : Weights} : ∀ (a b : List Nat) (j : Nat), a.length = b.length → logL w j (addL a b) = logL w j a + logL w j b
  | [], [], j, h => rfl
  | [], _ :: _, j, h => by cases h
  | _ :: _, [], j, h => by cases h
  | x :: a, y :: b, j, h => by
    have ih := logL_add (w := w) a b (j + 1) (by simpa using h)
    show ((x + y : Nat) : Int) * lg w j + logL w (j + 1) (addL a b) = _
    rw [ih, logL, logL, Int.natCast_add, Int.add_mul]
    omega
theorem addL_len {a b : List Nat} (h : a.length = b.length) : (addL a b).length = a.length := by
  unfold addL; rw [List.length_zipWith, h, Nat.min_self]
end Gp
set_option linter.unusedVariables false
set_option linter.unusedSimpArgs false
namespace Gp
open Gw Gq
def sumR (g : Nat → Rat) : Nat → Rat
  | 0 => 0
  | n + 1 => sumR g n + g n
theorem sumR_nn {g : Nat → Rat} : ∀ m, (∀ x, x < m → 0 ≤ g x) → 0 ≤ sumR g m
  | 0, _ => Rat.le_refl
  | m + 1, h => by
    have h1 := sumR_nn m fun x hx => h x (by omega)
    have h2 := h m (by omega)
    rw [sumR]
    exact Rat.add_nonneg h1 h2
theorem rat_add0 {a b : Rat} (h : 0 ≤ a) (h2 : 0 ≤ b) (h3 : a + b = 0) : a = 0 ∧ b = 0 := by grind
theorem sumR_zero {g : Nat → Rat} : ∀ m, (∀ x, x < m → 0 ≤ g x) → sumR g m = 0 → ∀ x, x < m → g x = 0
  | 0, _, _, x, hx => by omega
  | m + 1, h, h0, x, hx => by
    obtain ⟨h1, h2⟩ := rat_add0 (sumR_nn m fun x hx => h x (by omega)) (h m (by omega)) h0
    by_cases e : x = m
    · rw [e]; exact h2
    · exact sumR_zero m (fun x hx => h x (by omega)) h1 x (by omega)
theorem sumR_congr {g g' : Nat → Rat} : ∀ m, (∀ x, x < m → g x = g' x) → sumR g m = sumR g' m
  | 0, _ => rfl
  | m + 1, h => by rw [sumR, sumR, sumR_congr m fun x hx => h x (by omega), h m (by omega)]
theorem row_step {f a b w0 s n w1 w2 : Rat} (h : f * a + w0 = b + w1) (h2 : f * s + w1 = n + w2) : f * (a + s) + w0 = b + n + w2 := by grind
theorem row_end {f a b w0 : Rat} (h : f * a + w0 = b + w0) : f * a = b := by grind
structure Tor (s : List Tile) (W H : Nat) (T : Nat → Nat → Nat) : Prop where
  dW : 1 ≤ W
  dH : 1 ≤ H
  lt : ∀ y x, y < H → x < W → T y x < s.length
  E : ∀ y x, y < H → x < W → (tw s (T y x)).E = (tw s (T y ((x + 1) % W))).W
  N : ∀ y x, y < H → x < W → (tw s (T y x)).N = (tw s (T ((y + 1) % H) x)).S
section
variable {s : List Tile} {w : Weights} {W H : Nat} {T : Nat → Nat → Nat}
def sV (s : List Tile) (w : Weights) (T : Nat → Nat → Nat) (y x : Nat) : Rat := vl (fr w.Values (tw s (T y x)).S)
def nV (s : List Tile) (w : Weights) (T : Nat → Nat → Nat) (y x : Nat) : Rat := vl (fr w.Values (tw s (T y x)).N)
def wV (s : List Tile) (w : Weights) (T : Nat → Nat → Nat) (y x : Nat) : Rat := vl (fr w.Carries (tw s (T y x)).W)
def fV (w : Weights) (T : Nat → Nat → Nat) (y x : Nat) : Rat := vl (fr w.Factors ((T y x : Nat) : Int))
theorem row_factor (c : Checked s w) (t : Tor s W H T) {y : Nat} (hy : y < H) : ∀ x, x < W → fV w T y x = fV w T y 0
  | 0, _ => rfl
  | x + 1, hx => by
    rw [← row_factor c t hy x (by omega)]
    have h1 := t.E y x hy (by omega)
    rw [Nat.mod_eq_of_lt hx] at h1
    have := c.pairs _ _ (t.lt y x hy (by omega)) (t.lt y (x + 1) hy hx) h1
    exact (eqF_vl (c.ok.f (t.lt y x hy (by omega))).1 (c.ok.f (t.lt y (x + 1) hy hx)).1 this).symm
theorem row_sum (c : Checked s w) (t : Tor s W H T) {y : Nat} (hy : y < H) : ∀ m, m ≤ W → fV w T y 0 * sumR (sV s w T y) m + wV s w T y 0 = sumR (nV s w T y) m + wV s w T y (m % W)
  | 0, _ => by
    have := t.dW
    rw [Nat.zero_mod, sumR, sumR, Rat.mul_zero]
  | m + 1, hm => by
    have ih := row_sum c t hy m (by omega)
    rw [Nat.mod_eq_of_lt (by omega)] at ih
    have hlt := t.lt y m hy (by omega)
    have hb := List.all_eq_true.1 c.bal (T y m) (List.mem_range.2 hlt)
    unfold balT at hb
    rw [decide_eq_true_eq] at hb
    have h2 := bal_vl (c.ok.f hlt).1 (c.ok.okv _ (fr_mem (c.ok.S _ hlt))).1 (c.ok.okc _ (fr_mem (c.ok.W _ hlt))) (c.ok.okv _ (fr_mem (c.ok.N _ hlt))).1 (c.ok.okc _ (fr_mem (c.ok.E _ hlt))) hb
    rw [t.E y m hy (by omega)] at h2
    have h3 : fV w T y m * sV s w T y m + wV s w T y m = nV s w T y m + wV s w T y ((m + 1) % W) := h2
    rw [row_factor c t hy m (by omega)] at h3
    exact row_step ih h3
theorem row_all (c : Checked s w) (t : Tor s W H T) {y : Nat} (hy : y < H) : fV w T y 0 * sumR (sV s w T y) W = sumR (sV s w T ((y + 1) % H)) W := by
  have h := row_sum c t hy W (Nat.le_refl _)
  rw [Nat.mod_self] at h
  rw [row_end h]
  refine sumR_congr W fun x hx => ?_
  unfold nV sV
  rw [t.N y x hy hx]
theorem fact_vl {f : Frac} (hf : okF f) (h : factP w f) : ∃ xa xb : List Nat, xa.length = w.Primes.length ∧ xb.length = w.Primes.length ∧ vl f * ((powL w 0 xb : Nat) : Rat) = ((powL w 0 xa : Nat) : Rat) ∧ 0 < logL w 0 xa - logL w 0 xb := by
  obtain ⟨xa, xb, h1, h2, h3, h4⟩ := h
  refine ⟨xa, xb, h1, h2, ?_, h4⟩
  unfold vl
  refine val_pow (den_ne hf) ?_
  have := congrArg (fun z : Int => (z : Rat)) h3
  simp only [Rat.intCast_mul] at this
  exact_mod_cast this
theorem mul_step {f a sy s0 pA pB pa pb : Rat} (h1 : sy * pB = s0 * pA) (h2 : f * pb = pa) : f * sy * (pB * pb) = s0 * (pA * pa) := by grind
theorem powL_zero : ∀ (n j : Nat), powL w j (List.replicate n 0) = 1 ∧ logL w j (List.replicate n 0) = 0
  | 0, j => ⟨rfl, rfl⟩
  | n + 1, j => by
    obtain ⟨h1, h2⟩ := powL_zero n (j + 1)
    rw [List.replicate_succ, powL, logL, h1, h2]
    simp
theorem rows_to (c : Checked s w) (t : Tor s W H T) : ∀ y, y ≤ H → ∃ xa xb : List Nat, xa.length = w.Primes.length ∧ xb.length = w.Primes.length ∧ sumR (sV s w T (y % H)) W * ((powL w 0 xb : Nat) : Rat) = sumR (sV s w T 0) W * ((powL w 0 xa : Nat) : Rat) ∧ 0 ≤ logL w 0 xa - logL w 0 xb ∧ (0 < y → 0 < logL w 0 xa - logL w 0 xb)
  | 0, _ => by
    obtain ⟨h1, h2⟩ := powL_zero (w := w) w.Primes.length 0
    exact ⟨List.replicate w.Primes.length 0, List.replicate w.Primes.length 0, by simp, by simp, by rw [Nat.zero_mod], by omega, fun h => by omega⟩
  | y + 1, hy => by
    obtain ⟨xa, xb, h1, h2, h3, h4, _⟩ := rows_to c t y (by omega)
    have hy2 : y < H := by omega
    have hlt := t.lt y 0 hy2 t.dW
    obtain ⟨ya, yb, g1, g2, g3, g4⟩ := fact_vl (w := w) (c.ok.f hlt).1 (c.fact _ (fr_mem (by rw [c.ok.fl]; omega)))
    rw [Nat.mod_eq_of_lt hy2] at h3
    refine ⟨addL xa ya, addL xb yb, by rw [addL_len (by omega), h1], by rw [addL_len (by omega), h2], ?_, ?_, fun _ => ?_⟩
    · rw [powL_add _ _ _ (by omega), powL_add _ _ _ (by omega), ← row_all c t hy2, Rat.natCast_mul, Rat.natCast_mul]
      exact mul_step (a := 0) h3 g3
    · rw [logL_add _ _ _ (by omega), logL_add _ _ _ (by omega)]; omega
    · rw [logL_add _ _ _ (by omega), logL_add _ _ _ (by omega)]; omega
theorem rat_cancel {a b c : Rat} (h : a * b = a * c) (h0 : a ≠ 0) : b = c := by grind
theorem no_period (c : Checked s w) (t : Tor s W H T) : False := by
  obtain ⟨xa, xb, h1, h2, h3, _, h5⟩ := rows_to c t H (Nat.le_refl _)
  rw [Nat.mod_self] at h3
  by_cases h0 : sumR (sV s w T 0) W = 0
  · have hnn : ∀ x, x < W → 0 ≤ sV s w T 0 x := fun x hx => by
      have hlt := t.lt 0 x t.dH hx
      have := c.ok.okv _ (fr_mem (c.ok.S _ hlt))
      exact (vl_nn this.1 this.2).1
    have hz := sumR_zero W hnn h0
    have hC := c.cyc ((List.range W).map fun x => tw s (T 0 x)) (fun u hu => ?_) (fun u hu => ?_)
    · have hl := congrArg List.length hC
      have := t.dW
      simp at hl
      omega
    · obtain ⟨x, hx, rfl⟩ := List.mem_map.1 hu
      have hx := List.mem_range.1 hx
      have hlt := t.lt 0 x t.dH hx
      have hv := c.ok.okv _ (fr_mem (c.ok.S _ hlt))
      refine List.mem_filter.2 ⟨by rw [tw_get hlt]; exact List.getElem_mem hlt, ?_⟩
      have := (vl_nn hv.1 hv.2).2 (hz x hx)
      simpa using this
    · obtain ⟨x, hx, rfl⟩ := List.mem_map.1 hu
      have hx := List.mem_range.1 hx
      exact ⟨tw s (T 0 ((x + 1) % W)), List.mem_map.2 ⟨(x + 1) % W, List.mem_range.2 (Nat.mod_lt _ (by omega)), rfl⟩, (t.E 0 x t.dH hx).symm⟩
  · have h6 := rat_cancel h3 h0
    have h7 : powL w 0 xb = powL w 0 xa := by exact_mod_cast h6
    have h8 := powL_inj c.op c.co xb xa 0 (by omega) (by omega) h7
    have := h5 t.dH
    rw [h8] at this
    omega
end
end Gp
set_option linter.unusedVariables false
set_option linter.unusedSimpArgs false
namespace Gp
open Gw Gq
theorem posW {y x W : Nat} (hx : x < W) : (y * W + x) / W = y ∧ (y * W + x) % W = x := by
  refine ⟨?_, ?_⟩
  · rw [Nat.mul_comm, Nat.mul_add_div (by omega), Nat.div_eq_of_lt hx]; omega
  · rw [Nat.mul_comm, Nat.mul_add_mod, Nat.mod_eq_of_lt hx]
theorem posWlt {y x W H : Nat} (hx : x < W) (hy : y < H) : y * W + x < H * W := by
  have : (y + 1) * W ≤ H * W := Nat.mul_le_mul_right W hy
  rw [Nat.add_mul, Nat.one_mul] at this
  omega
theorem tor_of {s : List Tile} {p : Pattern} {W H : Nat} (f : PForm s p W H) (hj : ((List.range (H * W)).all fun i => rightB s p W H true i && upB s p W H true i) = true) : Tor s W H fun y x => (p.Cells.getD (y * W + x) 0).toNat := by
  have hW := f.dW; have hH := f.dH; have hlen := f.len
  simp only [List.all_eq_true, List.mem_range, Bool.and_eq_true] at hj
  have r : ∀ y x, y < H → x < W → (tl s p (y * W + x)).E = (tl s p (y * W + (x + 1) % W)).W := fun y x hy hx => by
    have := (hj _ (posWlt hx hy)).1
    unfold rightB at this
    rw [(posW hx).1, (posW hx).2] at this
    simpa using this
  have u : ∀ y x, y < H → x < W → (tl s p (y * W + x)).N = (tl s p ((y + 1) % H * W + x)).S := fun y x hy hx => by
    have := (hj _ (posWlt hx hy)).2
    unfold upB at this
    rw [(posW hx).1, (posW hx).2] at this
    simpa using this
  refine ⟨hW.1, hH.1, fun y x hy hx => ?_, fun y x hy hx => r y x hy hx, fun y x hy hx => u y x hy hx⟩
  have := f.cel (y * W + x) (posWlt hx hy)
  show (p.Cells.getD (y * W + x) 0).toNat < s.length
  omega
end Gp
set_option linter.unusedVariables false
set_option linter.unusedSimpArgs false
namespace Gp
open Gw Gq
theorem awake06_ok (k : Nat) : law06_awake (k + 400) = some true := by kernel_rfl
theorem wide06 (s : List Tile) (w : Weights) : ∃ b, law06_wide s w = some b := ⟨_, rfl⟩
theorem rep_no {s : List Tile} {w : Weights} (c : Checked s w) (p : Pattern) : repB s p = false := by
  cases h : repB s p
  · rfl
  · unfold repB at h
    rw [Bool.and_eq_true] at h
    obtain ⟨W, H, f⟩ := inB_iff h.1
    obtain ⟨e1, e2⟩ := rep_form' f
    rw [e1, e2] at h
    exact (no_period c (tor_of f h.2)).elim
theorem step4 (p : Int) (hp : (Go.Lit.int .u8 p).wf = true) : ∃ n : Nat, w64 (1 + Int.tmod (w64 p) 4) = (n : Int) ∧ 1 ≤ n ∧ n ≤ 6 := by
  simp [Go.Lit.wf, Go.IntKind.min, Go.IntKind.max, Go.IntKind.signed, Go.IntKind.bits] at hp
  obtain ⟨q, rfl⟩ : ∃ q : Nat, p = q := ⟨p.toNat, by omega⟩
  rw [w64_id (n := (q : Int)) (by omega) (by omega), show Int.tmod (q : Int) 4 = ((q % 4 : Nat) : Int) from rfl, w64_id (by omega) (by omega)]
  exact ⟨1 + q % 4, by simp, by omega, by omega⟩
theorem least_w {s : List Tile} {w : Weights} (c : Checked s w) {m : Nat} (hm : 1 ≤ m ∧ m ≤ 6) {k : Nat} (hk : 300100 < k) : ∃ q, torus_Least k s m = some q ∧ (q.2 = 6 ∨ q.2 = 4) := by
  have hv := c.valid
  have hl := valid_len hv
  cases hf : fewB s.length m
  · refine ⟨(p0P, 4), ?_, .inr rfl⟩
    unfold torus_Least
    rw [tile_valid s (by omega) (by omega), hv, Option.bind_some, if_neg (by simp), if_neg (by simp; omega)]
    rw [few_eq s m (by omega) (by omega) (by omega), hf]; rfl
  · rw [least_eq s m hv hm hf hk]
    refine ⟨_, rfl, ?_⟩
    cases hL : leastS s m with
    | none => exact .inl rfl
    | some p =>
      obtain ⟨w', h', f, hw, hh, ht, rfl, _⟩ := least_some hm.2 hL
      have hwh : h' * w' ≤ 36 := Nat.mul_le_mul (Nat.le_trans hh.2 hm.2) (Nat.le_trans hw.2 hm.2)
      obtain ⟨pf, pj⟩ := tor_pattern ht ⟨hw.1, by omega⟩ ⟨hh.1, by omega⟩ (by omega)
      exact (no_period c (tor_of pf pj)).elim
theorem law06_WeightNone_pure : ∀ (p0 : List Tile) (p1 : Weights) (p2 : Pattern) (p3 : Int), ((∀ x ∈ p0, ok_Tile x) ∧ p0.length ≤ Go.maxLen) → (ok_Weights p1) → (ok_Pattern p2) → ((Go.Lit.int .u8 p3).wf = true) → ∃ k, law06_WeightNone k p0 p1 p2 p3 = some true := by
  intro s w p t hs _ _ ht
  have hl : s.length ≤ 9223372036854775807 := hs.2
  refine ⟨4999999600 + 400, ?_⟩
  have aw := awake06_ok 4999999600
  obtain ⟨n, en, n1, n6⟩ := step4 t ht
  unfold law06_WeightNone
  rw [aw, en]
  have hx : ∃ b, (if (decide ((s.length : Int) > 60)) = true then (some true) else ((law06_wide s w).bind fun t => some t)) = some b := by
    obtain ⟨b, hb⟩ := wide06 s w
    rw [hb]; split <;> exact ⟨_, rfl⟩
  obtain ⟨b, hb⟩ := hx
  rw [hb, Option.bind_some]
  split
  · rfl
  obtain ⟨b, e, h1, h2⟩ := wchk_eq (w := w) hl (k := 4999999600 + 400) (by omega)
  rw [h1, Option.bind_some]
  simp only
  by_cases hb : ((e != 0) || (!b)) = true
  · rw [if_pos hb]; rfl
  rw [if_neg hb]
  simp only [Bool.or_eq_true, bne_iff_ne, ne_eq, Bool.not_eq_true', not_or, Decidable.not_not, Bool.not_eq_false] at hb
  have c := h2 hb.2 hb.1
  obtain ⟨q, hq, hq2⟩ := least_w c ⟨n1, n6⟩ (k := 4999999600 + 400) (by omega)
  rw [hq, Option.bind_some, rep_tile c.valid p (by omega), rep_no c p, Option.bind_some]
  have : (!false && (q.2 == 6 || q.2 == 4)) = true := by
    rcases hq2 with h | h <;> rw [h] <;> rfl
  rw [if_pos this]
  rfl
end Gp
