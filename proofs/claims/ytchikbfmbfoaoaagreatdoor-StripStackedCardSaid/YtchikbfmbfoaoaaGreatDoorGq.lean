/- The plain law: what the functions compute answers as the statement says. -/
import Derived.Test.YtchikbfmbfoaoaaGreatDoorGp
import Derived.KernelRfl
set_option linter.unusedVariables false
set_option linter.unusedSimpArgs false
namespace Gq
open Go Gw Gp
/-! ### numbers and lists -/
theorem w64_id {n : Int} (h0 : -9223372036854775808 ≤ n) (h1 : n ≤ 9223372036854775807) : w64 n = n := by
  show IntKind.i64.wrap n = n
  have e : IntKind.i64.wrap n = if (true && decide (n % 18446744073709551616 ≥ 9223372036854775808)) = true then n % 18446744073709551616 - 18446744073709551616 else n % 18446744073709551616 := rfl
  rw [e]
  simp only [Bool.true_and, decide_eq_true_eq]
  split <;> omega
theorem rdD_nat {α : Type} (xs : List α) (i : Nat) (d : α) : rdD xs (i : Int) d = xs.getD i d := by simp [rdD]
theorem rdD_get {α : Type} {xs : List α} {i : Nat} (h : i < xs.length) (d : α) : rdD xs (i : Int) d = xs[i] := by
  simp [rdD, List.getD, List.getElem?_eq_getElem h]
def firstS {α β : Type} (g : Nat → α → Option β) : Nat → List α → Option β
  | _, [] => none
  | i, a :: r => match g i a with
    | some b => some b
    | none => firstS g (i + 1) r
def fin {β : Type} : Option β → Sum β Unit
  | some b => .inl b
  | none => .inr ()
theorem scan {α β : Type} {F : Nat → Int → Option (Sum β Unit)} {xs : List α} {g : Nat → α → Option β}
    (hF : ∀ k (i : Nat), i ≤ xs.length → F (k + 1) (i : Int) = if h : i < xs.length then (match g i xs[i] with | some b => some (.inl b) | none => F k ((i + 1 : Nat) : Int)) else some (.inr ())) :
    ∀ (n k i : Nat), i + n = xs.length → n < k → F k (i : Int) = some (fin (firstS g i (xs.drop i)))
  | 0, k, i, hi, hk => by
    obtain ⟨k, rfl⟩ : ∃ m, k = m + 1 := ⟨k - 1, by omega⟩
    have hi : i = xs.length := by omega
    subst hi
    rw [hF k _ (Nat.le_refl _), dif_neg (Nat.lt_irrefl _), List.drop_length]; rfl
  | n + 1, k, i, hi, hk => by
    obtain ⟨k, rfl⟩ : ∃ m, k = m + 1 := ⟨k - 1, by omega⟩
    have hlt : i < xs.length := by omega
    rw [hF k i (by omega), dif_pos hlt, List.drop_eq_getElem_cons hlt, firstS]
    cases hg : g i xs[i] with
    | some b => rfl
    | none => exact scan hF n k (i + 1) (by omega) (by omega)
end Gq
set_option linter.unusedVariables false
set_option linter.unusedSimpArgs false
namespace Gq
theorem flat_succ {α : Type} (f : Nat → List α) (n : Nat) : (List.range (n + 1)).flatMap f = (List.range n).flatMap f ++ f n := by
  rw [List.range_succ, List.flatMap_append]; simp
end Gq
namespace Gp
open Gw Gq
/-! ### the tiles of a machine -/
def hd (Y q s : Nat) : Int := ((Y + q * Y + s : Nat) : Int)
end Gp
set_option linter.unusedVariables false
set_option linter.unusedSimpArgs false
namespace Gq
theorem flat_get {α : Type} {f : Nat → List α} : ∀ {n q j : Nat} {t : α}, q < n → (f q)[j]? = some t → ((List.range n).flatMap f)[((List.range q).flatMap f).length + j]? = some t
  | 0, q, j, t, h, _ => by omega
  | n + 1, q, j, t, h, hj => by
    rw [flat_succ, List.getElem?_append]
    by_cases hq : q < n
    · have := flat_get (n := n) hq hj
      rw [if_pos (by by_cases hl : ((List.range q).flatMap f).length + j < ((List.range n).flatMap f).length
                     · exact hl
                     · rw [List.getElem?_eq_none (by omega)] at this; cases this)]
      exact this
    · have : q = n := by omega
      subst this
      rw [if_neg (by omega), show ((List.range q).flatMap f).length + j - ((List.range q).flatMap f).length = j by omega]; exact hj
theorem flat_len {α : Type} {f : Nat → List α} {b : Nat} (hf : ∀ i, (f i).length = b) : ∀ n, ((List.range n).flatMap f).length = n * b
  | 0 => by simp
  | n + 1 => by
    rw [flat_succ, List.length_append, Nat.add_mul, Nat.one_mul, flat_len hf n, hf n]
end Gq
namespace Gp
open Gw Gq
/-! ### where the tiles of a machine lie -/
end Gp
set_option linter.unusedVariables false
set_option linter.unusedSimpArgs false
namespace Gp
open Gw Gq
/-! ### the tile that shows a cell of a step -/
theorem Tile.ext' {a b : Tile} (h1 : a.N = b.N) (h2 : a.E = b.E) (h3 : a.S = b.S) (h4 : a.W = b.W) : a = b := by
  cases a; cases b; simp only at h1 h2 h3 h4; subst h1 h2 h3 h4; rfl
end Gp
set_option linter.unusedVariables false
set_option linter.unusedSimpArgs false
namespace Gq
theorem loop_all {σ ρ τ : Type} {F : Nat → Int → σ → Option (Sum ρ τ)} {S : Nat → σ} {b : Nat → Bool} {n K : Nat} {r : ρ} {e : τ} (hs : ∀ k i, K ≤ k → i < n → F (k + 1) (i : Int) (S i) = if b i = true then F k ((i + 1 : Nat) : Int) (S (i + 1)) else some (.inl r)) (he : ∀ k, F (k + 1) (n : Int) (S n) = some (.inr e)) :
    ∀ k, n + K < k → F k 0 (S 0) = some (if (List.range n).all b = true then .inr e else .inl r) := by
  have key : ∀ d i k, i + d = n → d + K < k → F k (i : Int) (S i) = some (if (List.range' i d).all b = true then .inr e else .inl r) := by
    intro d
    induction d with
    | zero =>
      intro i k hi hk
      obtain ⟨k, rfl⟩ : ∃ m, k = m + 1 := ⟨k - 1, by omega⟩
      have : i = n := by omega
      subst this; rw [he]; rfl
    | succ d ih =>
      intro i k hi hk
      obtain ⟨k, rfl⟩ : ∃ m, k = m + 1 := ⟨k - 1, by omega⟩
      rw [hs k i (by omega) (by omega), List.range'_succ, List.all_cons]
      cases hb : b i
      · rfl
      · rw [if_pos rfl, ih (i + 1) k (by omega) (by omega)]; rfl
  intro k hk
  rw [List.range_eq_range']
  exact key n 0 k (by omega) hk
theorem firstS_ge' {α : Type} {p : α → Bool} : ∀ (xs : List α) (i : Nat), (match firstS (fun i a => if p a = true then none else some (i : Int)) i xs with
    | some x => decide (0 ≤ x)
    | none => false) = !xs.all p
  | [], i => rfl
  | a :: r, i => by
    rw [firstS]
    cases h : p a
    · simp [h]
    · simp only [if_true, List.all_cons, h, Bool.true_and]
      exact firstS_ge' r (i + 1)
end Gq
namespace Gp
open Gw Gq
/-! ### sets of tiles and patterns -/
def inCol (c : Int) : Bool := decide (0 ≤ c ∧ c < 1000)
def colB (t : Tile) : Bool := inCol t.N && inCol t.E && inCol t.S && inCol t.W
theorem idx_col (xs : List Int) (hl : xs.length ≤ 1000000) (k : Nat) (hk : xs.length < k) :
    slices_IndexFunc_int_int_with_tile_colour_1.l0 k 0 xs = some (fin (firstS (fun i a => if inCol a = true then none else some (i : Int)) 0 xs)) := by
  have := scan (F := fun k i => slices_IndexFunc_int_int_with_tile_colour_1.l0 k i xs) (xs := xs) (g := fun i a => if inCol a = true then none else some (i : Int)) (fun k i hi => by
    show slices_IndexFunc_int_int_with_tile_colour_1.l0 (k + 1) i xs = _
    rw [slices_IndexFunc_int_int_with_tile_colour_1.l0]
    by_cases h : i < xs.length
    · have h' : (i : Int) < (xs.length : Int) := by omega
      have h2 : 0 ≤ (i : Int) ∧ (i : Int) < (xs.length : Int) := by omega
      rw [dif_pos h, if_pos (by simpa using h'), if_pos h2, rdD_get h, tile_colour_1, w64_id (by omega) (by omega)]
      by_cases hb : 0 ≤ xs[i] ∧ xs[i] < 1000
      · have h3 : ¬ (xs[i] < 0 ∨ 1000 ≤ xs[i]) := by omega
        simp [inCol, hb]
        intro hh; exact absurd hh h3
      · have h3 : (xs[i] < 0 ∨ 1000 ≤ xs[i]) := by omega
        simp [inCol, hb, h3]
    · have h' : ¬ (i : Int) < (xs.length : Int) := by omega
      rw [dif_neg h, if_neg (by simpa using h')]) xs.length k 0 (by simp) hk
  simpa using this
theorem colour_eq (xs : List Int) (hl : xs.length ≤ 1000000) (k : Nat) (hk : xs.length < k) : tile_colour k xs = some (xs.all inCol) := by
  unfold tile_colour slices_ContainsFunc_int_int_with_tile_colour_1 slices_IndexFunc_int_int_with_tile_colour_1
  rw [idx_col xs hl k hk]
  have := firstS_ge' (p := inCol) xs 0
  cases hf : firstS (fun i a => if inCol a = true then none else some (i : Int)) 0 xs <;> rw [hf] at this <;> cases ha : xs.all inCol <;> rw [ha] at this <;> simp [fin, sumb] at this ⊢
  · exact this
  · exact this
def metS (set : List Tile) (i : Nat) : List (Tile × Bool) := (set.take i).map fun t => (t, true)
theorem mget_met (t : Tile) : ∀ l : List Tile, mget t false (l.map fun t => (t, true)) = decide (t ∈ l)
  | [] => rfl
  | a :: r => by
    simp only [List.map_cons, mget]
    by_cases h : t = a
    · simp [h]
    · rw [if_neg h, mget_met t r]; simp [h]
theorem mput_met (t : Tile) : ∀ l : List Tile, t ∉ l → mput t true (l.map fun t => (t, true)) = (l.map fun t => (t, true)) ++ [(t, true)]
  | [], _ => rfl
  | a :: r, h => by
    simp only [List.mem_cons, not_or] at h
    simp only [List.map_cons, mput, if_neg h.1, mput_met t r h.2, List.cons_append]
def newB (set : List Tile) (i : Nat) : Bool := !decide (set.getD i z_Tile ∈ set.take i) && colB (set.getD i z_Tile)
def validT (set : List Tile) : Bool := decide (set.length ≤ 1000) && (List.range set.length).all (newB set)
theorem tile_valid (set : List Tile) {k : Nat} (hk : 1006 ≤ k) (hl : set.length ≤ 9223372036854775807) : tile_Valid k set = some (validT set) := by
  unfold tile_Valid validT
  by_cases hb : set.length ≤ 1000
  · rw [if_neg (by simp; omega)]
    have := loop_all (F := fun k i (m : List (Tile × Bool)) => tile_Valid.l0 k m i set) (S := metS set) (b := newB set) (n := set.length) (K := 5) (r := false) (e := ()) (fun k i hk hi => by
      show tile_Valid.l0 (k + 1) (metS set i) i set = if newB set i = true then tile_Valid.l0 k (metS set (i + 1)) ((i + 1 : Nat) : Int) set else _
      rw [tile_Valid.l0, if_pos (by simpa using hi), if_pos (by omega), rdD_nat, metS, mget_met]
      have ht : set.getD i z_Tile = set[i] := by simp [List.getElem?_eq_getElem hi]
      unfold newB
      by_cases hm : set.getD i z_Tile ∈ set.take i
      · rw [if_pos (by simpa using hm), show decide (set.getD i z_Tile ∈ set.take i) = true from decide_eq_true hm]; rfl
      · rw [if_neg (by simpa using hm), colour_eq _ (by simp) k (by simp; omega), Option.bind_some, Option.bind_some]
        have hc : ([(set.getD i z_Tile).N, (set.getD i z_Tile).E, (set.getD i z_Tile).S, (set.getD i z_Tile).W].all inCol) = colB (set.getD i z_Tile) := by simp [colB, Bool.and_assoc]
        rw [hc]
        cases hcb : colB (set.getD i z_Tile)
        · simp
        · rw [mput_met _ _ hm, w64_id (by omega) (by omega)]
          simp only [hm, Bool.not_true, Bool.false_eq_true, if_false, decide_false, Bool.not_false, Bool.and_self, if_true]
          unfold metS
          rw [List.take_add_one, List.map_append, List.getElem?_eq_getElem hi, ht]; rfl) (fun k => by
      show tile_Valid.l0 (k + 1) (metS set set.length) set.length set = _
      rw [tile_Valid.l0, if_neg (by simp)]) k (by omega)
    have h0 : tile_Valid.l0 k [] 0 set = some (if (List.range set.length).all (newB set) = true then .inr () else .inl false) := this
    rw [h0]
    cases (List.range set.length).all (newB set) <;> simp [sumb, hb]
  · rw [if_pos (by simp; omega)]; simp [hb]
def formB (p : Pattern) : Bool := decide (1 ≤ p.Width ∧ 1 ≤ p.Height ∧ p.Width ≤ 40000 ∧ p.Height ≤ 40000 ∧ p.Width * p.Height ≤ 40000 ∧ (p.Cells.length : Int) = p.Width * p.Height)
theorem form_eq (p : Pattern) : tile_Form p = some (formB p) := by
  unfold tile_Form formB
  by_cases h : 1 ≤ p.Width ∧ 1 ≤ p.Height ∧ p.Width ≤ 40000 ∧ p.Height ≤ 40000
  · have h0 : 0 ≤ p.Width * p.Height := Int.mul_nonneg (by omega) (by omega)
    have h1 : p.Width * p.Height ≤ 40000 * 40000 := Int.mul_le_mul (by omega) (by omega) (by omega) (by omega)
    rw [w64_id (n := p.Width * p.Height) (by omega) (by omega)]
    simp [h]; rfl
  · congr 1
    have : ((((decide (p.Width ≥ 1)) && (decide (p.Height ≥ 1))) && (decide (p.Width ≤ 40000))) && (decide (p.Height ≤ 40000))) = false := by
      cases he : ((((decide (p.Width ≥ 1)) && (decide (p.Height ≥ 1))) && (decide (p.Width ≤ 40000))) && (decide (p.Height ≤ 40000)))
      · rfl
      · simp only [Bool.and_eq_true, decide_eq_true_eq] at he
        exact absurd ⟨he.1.1.1, he.1.1.2, he.1.2, he.2⟩ h
    rw [this]; simp only [Bool.false_and]
    exact (decide_eq_false (fun h' => h ⟨h'.1, h'.2.1, h'.2.2.1, h'.2.2.2.1⟩)).symm
def inSet (n : Nat) (c : Int) : Bool := decide (0 ≤ c ∧ c < (n : Int))
theorem idx_of (set : List Tile) (xs : List Int) (hl : xs.length ≤ 1000000) (k : Nat) (hk : xs.length < k) :
    slices_IndexFunc_int_int_with_tile_of_1.l0 k 0 xs set = some (fin (firstS (fun i a => if inSet set.length a = true then none else some (i : Int)) 0 xs)) := by
  have := scan (F := fun k i => slices_IndexFunc_int_int_with_tile_of_1.l0 k i xs set) (xs := xs) (g := fun i a => if inSet set.length a = true then none else some (i : Int)) (fun k i hi => by
    show slices_IndexFunc_int_int_with_tile_of_1.l0 (k + 1) i xs set = _
    rw [slices_IndexFunc_int_int_with_tile_of_1.l0]
    by_cases h : i < xs.length
    · have h' : (i : Int) < (xs.length : Int) := by omega
      have h2 : 0 ≤ (i : Int) ∧ (i : Int) < (xs.length : Int) := by omega
      rw [dif_pos h, if_pos (by simpa using h'), if_pos h2, rdD_get h, tile_of_1, w64_id (by omega) (by omega)]
      by_cases hb : 0 ≤ xs[i] ∧ xs[i] < (set.length : Int)
      · have h3 : ¬ (xs[i] < 0 ∨ (set.length : Int) ≤ xs[i]) := by omega
        simp [inSet, hb]
        intro hh; exact absurd hh h3
      · have h3 : (xs[i] < 0 ∨ (set.length : Int) ≤ xs[i]) := by omega
        simp [inSet, hb, h3]
    · have h' : ¬ (i : Int) < (xs.length : Int) := by omega
      rw [dif_neg h, if_neg (by simpa using h')]) xs.length k 0 (by simp) hk
  simpa using this
theorem contains_of (set : List Tile) (xs : List Int) (hl : xs.length ≤ 1000000) (k : Nat) (hk : xs.length < k) : slices_ContainsFunc_int_int_with_tile_of_1 k xs set = some (!xs.all (inSet set.length)) := by
  unfold slices_ContainsFunc_int_int_with_tile_of_1 slices_IndexFunc_int_int_with_tile_of_1
  rw [idx_of set xs hl k hk]
  have := firstS_ge' (p := inSet set.length) xs 0
  cases hf : firstS (fun i a => if inSet set.length a = true then none else some (i : Int)) 0 xs <;> rw [hf] at this <;> cases ha : xs.all (inSet set.length) <;> rw [ha] at this <;> simp [fin, sumb] at this ⊢
  · exact this
  · exact this
def ofB (set : List Tile) (p : Pattern) : Bool := validT set && formB p && p.Cells.all (inSet set.length)
theorem formB_len {p : Pattern} (h : formB p = true) : p.Cells.length ≤ 40000 := by
  unfold formB at h
  simp only [decide_eq_true_eq] at h
  omega
theorem of_eq (set : List Tile) (p : Pattern) {k : Nat} (hk : 40001 ≤ k) (hl : set.length ≤ 9223372036854775807) : tile_of k set p = some (ofB set p) := by
  unfold tile_of ofB
  rw [tile_valid set (by omega) hl, Option.bind_some, form_eq]
  cases hv : validT set
  · rfl
  · rw [if_pos rfl]
    cases hf : formB p
    · rfl
    · have := formB_len hf
      rw [Option.bind_some, Option.bind_some, if_pos rfl, contains_of set p.Cells (by omega) k (by omega)]
      simp
def tl (set : List Tile) (p : Pattern) (j : Nat) : Tile := set.getD (p.Cells.getD j 0).toNat z_Tile
def rightB (set : List Tile) (p : Pattern) (W H : Nat) (round : Bool) (i : Nat) : Bool := !(decide (i % W + 1 < W) || round) || (tl set p i).E == (tl set p (i / W * W + (i % W + 1) % W)).W
def upB (set : List Tile) (p : Pattern) (W H : Nat) (round : Bool) (i : Nat) : Bool := !(decide (i / W + 1 < H) || round) || (tl set p i).N == (tl set p ((i / W + 1) % H * W + i % W)).S
structure PForm (set : List Tile) (p : Pattern) (W H : Nat) : Prop where
  w : p.Width = W
  h : p.Height = H
  dW : 1 ≤ W ∧ W ≤ 40000
  dH : 1 ≤ H ∧ H ≤ 40000
  wh : H * W ≤ 40000
  len : p.Cells.length = H * W
  cel : ∀ j, j < H * W → 0 ≤ p.Cells.getD j 0 ∧ p.Cells.getD j 0 < (set.length : Int)
theorem PForm.tl {set : List Tile} {p : Pattern} {W H : Nat} (f : PForm set p W H) {j : Nat} (hj : j < H * W) : rdD set (p.Cells.getD j 0) z_Tile = Gp.tl set p j ∧ (0 ≤ p.Cells.getD j 0 ∧ p.Cells.getD j 0 < (set.length : Int)) := ⟨rfl, f.cel j hj⟩
theorem place_lt {W H x y : Nat} (hx : x < W) (hy : y < H) : y * W + x < H * W := by
  have := Nat.mul_le_mul_right W (show y + 1 ≤ H by omega)
  rw [Nat.succ_mul] at this; omega
theorem joins_eq {set : List Tile} {p : Pattern} {W H : Nat} (f : PForm set p W H) (round : Bool) {k : Nat} (hk : 40001 ≤ k) : tile_joins k set p round = some ((List.range (H * W)).all fun i => rightB set p W H round i && upB set p W H round i) := by
  have hwh := f.wh
  have hdW := f.dW
  have hdH := f.dH
  unfold tile_joins
  have := loop_all (F := fun k i (_ : Unit) => tile_joins.l0 k i set p round) (S := fun _ => ()) (b := fun i => rightB set p W H round i && upB set p W H round i) (n := H * W) (K := 0) (r := false) (e := ()) (fun k i _ hi => by
    show tile_joins.l0 (k + 1) i set p round = if (rightB set p W H round i && upB set p W H round i) = true then tile_joins.l0 k ((i + 1 : Nat) : Int) set p round else _
    obtain ⟨y, hyd⟩ : ∃ y, i / W = y := ⟨_, rfl⟩
    obtain ⟨x, hxd⟩ : ∃ x, i % W = x := ⟨_, rfl⟩
    obtain ⟨x2, hx2d⟩ : ∃ x2, (x + 1) % W = x2 := ⟨_, rfl⟩
    obtain ⟨y2, hy2d⟩ : ∃ y2, (y + 1) % H = y2 := ⟨_, rfl⟩
    have hx : x < W := hxd ▸ Nat.mod_lt _ (by omega)
    have hy : y < H := hyd ▸ Nat.div_lt_of_lt_mul (by rw [Nat.mul_comm]; exact hi)
    have hx2 : x2 < W := hx2d ▸ Nat.mod_lt _ (by omega)
    have hy2 : y2 < H := hy2d ▸ Nat.mod_lt _ (by omega)
    have hr := place_lt hx2 hy
    have hu := place_lt hx hy2
    have e1 : Int.tmod (i : Int) (W : Int) = (x : Int) := by rw [← hxd]; rfl
    have e2 : Int.tdiv (i : Int) (W : Int) = (y : Int) := by rw [← hyd]; rfl
    have e3 : w64 ((x : Int) + 1) = ((x + 1 : Nat) : Int) := by rw [w64_id (by omega) (by omega)]; rfl
    have e4 : w64 (y : Int) = (y : Int) := w64_id (by omega) (by omega)
    have e5 : w64 ((y : Int) + 1) = ((y + 1 : Nat) : Int) := by rw [w64_id (by omega) (by omega)]; rfl
    have e6 : Int.tmod ((x + 1 : Nat) : Int) (W : Int) = (x2 : Int) := by rw [← hx2d]; rfl
    have e7 : Int.tmod ((y + 1 : Nat) : Int) (H : Int) = (y2 : Int) := by rw [← hy2d]; rfl
    have e8 : w64 (w64 ((y : Int) * (W : Int)) + (x2 : Int)) = ((y * W + x2 : Nat) : Int) := by
      rw [← Int.natCast_mul, w64_id (n := ((y * W : Nat) : Int)) (by omega) (by omega), w64_id (by omega) (by omega)]; rfl
    have e9 : w64 (w64 ((y2 : Int) * (W : Int)) + (x : Int)) = ((y2 * W + x : Nat) : Int) := by
      rw [← Int.natCast_mul, w64_id (n := ((y2 * W : Nat) : Int)) (by omega) (by omega), w64_id (by omega) (by omega)]; rfl
    have c0 := f.tl hi
    have c1 := f.tl hr
    have c2 := f.tl hu
    have b1 : 0 ≤ ((y * W + x2 : Nat) : Int) ∧ ((y * W + x2 : Nat) : Int) < (p.Cells.length : Int) := by rw [f.len]; omega
    have b2 : 0 ≤ ((y2 * W + x : Nat) : Int) ∧ ((y2 * W + x : Nat) : Int) < (p.Cells.length : Int) := by rw [f.len]; omega
    rw [tile_joins.l0, if_pos (decide_eq_true (by rw [f.len]; exact Int.ofNat_lt.2 hi)), if_pos (by rw [f.len]; omega), f.w, f.h, if_pos (by omega)]
    simp only [e1, e2, e3, e4, e5, e6, e7, e8, e9, rdD_nat, if_pos c0.2, if_pos c1.2, if_pos c2.2, if_pos b1, if_pos b2, c0.1, c1.1, c2.1]
    have g1 : decide (((x + 1 : Nat) : Int) < (W : Int)) = decide (x + 1 < W) := by congr 1; apply propext; omega
    have g2 : decide (((y + 1 : Nat) : Int) < (H : Int)) = decide (y + 1 < H) := by congr 1; apply propext; omega
    have g3 : (H : Int) ≠ 0 := by omega
    rw [g1, g2]
    have e10 : w64 ((i : Int) + 1) = ((i + 1 : Nat) : Int) := by rw [w64_id (by omega) (by omega)]; rfl
    simp only [if_pos g3, e10]
    unfold rightB upB
    rw [hyd, hxd, hx2d, hy2d]
    cases (decide (x + 1 < W) || round) <;> cases (decide (y + 1 < H) || round)
    · simp [sumb]
    · cases hN : ((tl set p i).N == (tl set p (y2 * W + x)).S) <;> simp [sumb, hN, bne]
    · cases hE : ((tl set p i).E == (tl set p (y * W + x2)).W) <;> simp [sumb, hE, bne]
    · cases hE : ((tl set p i).E == (tl set p (y * W + x2)).W) <;> cases hN : ((tl set p i).N == (tl set p (y2 * W + x)).S) <;> simp [sumb, hE, hN, bne]) (fun k => by
    show tile_joins.l0 (k + 1) ((H * W : Nat) : Int) set p round = _
    rw [tile_joins.l0, if_neg (by rw [f.len]; simp)]) k (by omega)
  have h0 : tile_joins.l0 k 0 set p round = some (if ((List.range (H * W)).all fun i => rightB set p W H round i && upB set p W H round i) = true then .inr () else .inl false) := this
  rw [h0]
  cases ((List.range (H * W)).all fun i => rightB set p W H round i && upB set p W H round i) <;> rfl
end Gp
set_option linter.unusedVariables false
set_option linter.unusedSimpArgs false
namespace Gp
open Gw Gq
/-! ### the pictures are patterns of the tiles -/
theorem PForm.of {set : List Tile} {p : Pattern} {W H : Nat} (f : PForm set p W H) (hv : validT set = true) : ofB set p = true := by
  unfold ofB formB
  have h1 := f.dW; have h2 := f.dH; have h3 := f.wh
  have e : p.Width * p.Height = ((H * W : Nat) : Int) := by rw [f.w, f.h, Int.natCast_mul, Int.mul_comm]
  rw [hv, e, f.w, f.h, f.len]
  simp only [Bool.true_and, Bool.and_eq_true, decide_eq_true_eq, List.all_eq_true]
  refine ⟨⟨by omega, by omega, by omega, by omega, by omega, trivial⟩, fun a ha => ?_⟩
  obtain ⟨j, hj, he⟩ := List.mem_iff_getElem.1 ha
  have := f.cel j (by rw [← f.len]; exact hj)
  rw [show p.Cells.getD j 0 = p.Cells[j] from by simp [List.getElem?_eq_getElem hj], he] at this
  unfold inSet; exact decide_eq_true this
theorem fits_eq {set : List Tile} {p : Pattern} {W H : Nat} (f : PForm set p W H) (hv : validT set = true) (hl : set.length ≤ 9223372036854775807) {k : Nat} (hk : 40001 ≤ k) : tile_Fits k set p = some ((List.range (H * W)).all fun i => rightB set p W H false i && upB set p W H false i) := by
  unfold tile_Fits
  rw [of_eq set p hk hl, f.of hv, Option.bind_some, if_pos rfl, joins_eq f false hk]; rfl
end Gp
set_option linter.unusedVariables false
set_option linter.unusedSimpArgs false
namespace Gq
end Gq
namespace Gp
open Gw Gq
/-! ### the patterns of the statements' own reference -/
end Gp
set_option linter.unusedVariables false
set_option linter.unusedSimpArgs false
namespace Gp
open Gw Gq
end Gp
set_option linter.unusedVariables false
set_option linter.unusedSimpArgs false
namespace Gp
open Gw Gq
/-! ### a torus, repeated -/
end Gp
set_option linter.unusedVariables false
set_option linter.unusedSimpArgs false
namespace Gp
open Gw Gq
/-! ### the first layer's reference -/
theorem colour01 (c : Int) : ref01_colour c = some (inCol c) := by
  unfold ref01_colour inCol
  by_cases h : 0 ≤ c ∧ c < 1000
  · simp [h]
  · rw [decide_eq_false h]
    congr 1
    cases h1 : decide (c ≥ 0)
    · rfl
    · have : ¬ c < 1000 := fun h2 => h ⟨by simpa using h1, h2⟩
      simp [this]
theorem index01 {set : List Tile} (hl : set.length ≤ 1000000) (t : Tile) {k : Nat} (hk : set.length < k) : ∃ r : Int, ref01_Index k set t = some r ∧ decide (r ≥ 0) = decide (t ∈ set) := by
  have := scan (F := fun k i => ref01_Index.l0 k i set t) (xs := set) (g := fun i a => if a = t then some (i : Int) else none) (fun k i hi => by
    show ref01_Index.l0 (k + 1) i set t = _
    rw [ref01_Index.l0]
    by_cases h : i < set.length
    · have h2 : 0 ≤ (i : Int) ∧ (i : Int) < (set.length : Int) := by omega
      rw [dif_pos h, if_pos (by simpa using h), if_pos h2, rdD_get h, w64_id (by omega) (by omega)]
      by_cases hb : set[i] = t
      · subst hb; simp
      · have : ((set[i].N == t.N) && ((set[i].E == t.E) && ((set[i].S == t.S) && (set[i].W == t.W)))) = false := by
          cases hc : ((set[i].N == t.N) && ((set[i].E == t.E) && ((set[i].S == t.S) && (set[i].W == t.W))))
          · rfl
          · simp only [Bool.and_eq_true, beq_iff_eq] at hc
            exact absurd (Tile.ext' hc.1 hc.2.1 hc.2.2.1 hc.2.2.2) hb
        rw [this, if_neg hb]; rfl
    · rw [dif_neg h, if_neg (by simpa using h)]) set.length k 0 (by simp) hk
  have h0 : ref01_Index.l0 k 0 set t = some (fin (firstS (fun i a => if a = t then some (i : Int) else none) 0 (set.drop 0))) := this
  rw [List.drop_zero] at h0
  have key : ∀ (l : List Tile) (i : Nat), match firstS (fun i a => if a = t then some (i : Int) else none) i l with
      | some x => decide (x ≥ 0) = decide (t ∈ l)
      | none => decide (t ∈ l) = false := by
    intro l
    induction l with
    | nil => intro i; simp [firstS]
    | cons a r ih =>
      intro i
      rw [firstS]
      by_cases ha : a = t
      · subst ha; simp
      · have hne : ¬ t = a := fun e => ha e.symm
        rw [if_neg ha]
        have := ih (i + 1)
        cases hf : firstS (fun i a => if a = t then some (i : Int) else none) (i + 1) r with
        | none => rw [hf] at this; simp only [List.mem_cons, hne, false_or]; exact this
        | some x => rw [hf] at this; simp only [List.mem_cons, hne, false_or]; exact this
  unfold ref01_Index
  rw [h0]
  have hk2 := key set 0
  cases hf : firstS (fun i a => if a = t then some (i : Int) else none) 0 set with
  | none => rw [hf] at hk2; exact ⟨-1, rfl, by rw [hk2]; rfl⟩
  | some x => rw [hf] at hk2; exact ⟨x, rfl, hk2⟩
theorem valid01 (set : List Tile) {k : Nat} (hk : 2002 < k) (hl : set.length ≤ 9223372036854775807) : ref01_Valid k set = some (validT set) := by
  unfold ref01_Valid validT
  by_cases hb : set.length ≤ 1000
  · rw [if_neg (by simp; omega)]
    have := loop_all (F := fun k i (_ : Unit) => ref01_Valid.l0 k i set) (S := fun _ => ()) (b := newB set) (n := set.length) (K := 1001) (r := false) (e := ()) (fun k i hk hi => by
      show ref01_Valid.l0 (k + 1) i set = if newB set i = true then ref01_Valid.l0 k ((i + 1 : Nat) : Int) set else _
      have hcut : cut set (0 : Int) (i : Int) = set.take i := by unfold cut; simp
      obtain ⟨r, hr, hd⟩ := index01 (set := set.take i) (by rw [List.length_take]; omega) (set.getD i z_Tile) (k := k) (by rw [List.length_take]; omega)
      rw [ref01_Valid.l0, if_pos (by simpa using hi), if_pos (by omega)]
      simp only [rdD_nat, colour01, Option.bind_some, hcut]
      rw [if_pos (⟨by omega, by omega, by omega⟩ : 0 ≤ (0 : Int) ∧ (0 : Int) ≤ (i : Int) ∧ (i : Int) ≤ (set.length : Int)), hr, w64_id (by omega) (by omega)]
      simp only [Option.bind_some, hd]
      unfold newB colB
      cases inCol (set.getD i z_Tile).N
      · simp
      · cases inCol (set.getD i z_Tile).E
        · simp
        · cases inCol (set.getD i z_Tile).S
          · simp
          · cases inCol (set.getD i z_Tile).W
            · simp
            · cases decide (set.getD i z_Tile ∈ set.take i) <;> simp) (fun k => by
      show ref01_Valid.l0 (k + 1) set.length set = _
      rw [ref01_Valid.l0, if_neg (by simp)]) k (by omega)
    have h0 : ref01_Valid.l0 k 0 set = some (if (List.range set.length).all (newB set) = true then .inr () else .inl false) := this
    rw [h0]
    cases (List.range set.length).all (newB set) <;> simp [sumb, hb]
  · rw [if_pos (by simp; omega)]; simp [hb]
end Gp
set_option linter.unusedVariables false
set_option linter.unusedSimpArgs false
namespace Gp
open Gw Gq
/-! ### grids: lists of rows -/
def grid (w h : Nat) (g : Nat → Nat → Int) : List Int := (List.range h).flatMap fun y => (List.range w).map (g y)
theorem grid_len (w h : Nat) (g : Nat → Nat → Int) : (grid w h g).length = h * w := flat_len (f := fun y => (List.range w).map (g y)) (b := w) (fun y => by simp) h
theorem grid_get (w h : Nat) (g : Nat → Nat → Int) {x y : Nat} (hx : x < w) (hy : y < h) : (grid w h g).getD (y * w + x) 0 = g y x := by
  have := flat_get (f := fun y => (List.range w).map (g y)) (n := h) (q := y) (j := x) (t := g y x) hy (by simp [hx])
  have e : ((List.range y).flatMap fun y => (List.range w).map (g y)).length = y * w := grid_len w y g
  rw [e] at this
  unfold grid
  rw [List.getD_eq_getElem?_getD, this]; rfl
theorem grid_ext {w h : Nat} {g : Nat → Nat → Int} {L : List Int} (hl : L.length = h * w) (he : ∀ y x, y < h → x < w → L.getD (y * w + x) 0 = g y x) : L = grid w h g := by
  apply List.ext_getElem
  · rw [hl, grid_len]
  · intro i h1 h2
    have hi : i < h * w := by omega
    have hw : 0 < w := by
      rcases Nat.eq_zero_or_pos w with h0 | h0
      · subst h0; simp at hi
      · exact h0
    have hx : i % w < w := Nat.mod_lt _ hw
    have hy : i / w < h := Nat.div_lt_of_lt_mul (by rw [Nat.mul_comm]; exact hi)
    have ei : i / w * w + i % w = i := by rw [Nat.mul_comm, Nat.div_add_mod]
    have a := he _ _ hy hx
    have b := grid_get w h g hx hy
    rw [ei] at a b
    have e1 : L.getD i 0 = L[i] := by simp [List.getElem?_eq_getElem h1]
    have e2 : (grid w h g).getD i 0 = (grid w h g)[i] := by simp [List.getElem?_eq_getElem h2]
    rw [← e1, ← e2, a, b]
/-! ### stores into a list -/
def sets (l : List Int) (q : List (Nat × Int)) : List Int := q.foldl (fun l p => l.set p.1 p.2) l
/-! ### patterns that have the form of one -/
structure GForm (p : Pattern) (W H : Nat) : Prop where
  w : p.Width = W
  h : p.Height = H
  dW : 1 ≤ W ∧ W ≤ 40000
  dH : 1 ≤ H ∧ H ≤ 40000
  wh : H * W ≤ 40000
  len : p.Cells.length = H * W
theorem GForm.form {p : Pattern} {W H : Nat} (f : GForm p W H) : formB p = true := by
  have h1 := f.dW; have h2 := f.dH; have h3 := f.wh
  have e : p.Width * p.Height = ((H * W : Nat) : Int) := by rw [f.w, f.h, Int.natCast_mul, Int.mul_comm]
  unfold formB; rw [e, f.w, f.h, f.len]; exact decide_eq_true ⟨by omega, by omega, by omega, by omega, by omega, rfl⟩
theorem PForm.g {set : List Tile} {p : Pattern} {W H : Nat} (f : PForm set p W H) : GForm p W H := ⟨f.w, f.h, f.dW, f.dH, f.wh, f.len⟩
def cellG (p : Pattern) (W y x : Nat) : Int := p.Cells.getD (y * W + x) 0
theorem GForm.at {p : Pattern} {W H : Nat} (f : GForm p W H) {x y : Nat} (hx : x < W) (hy : y < H) : w64 (w64 ((y : Int) * (W : Int)) + (x : Int)) = ((y * W + x : Nat) : Int) ∧ (0 ≤ ((y * W + x : Nat) : Int) ∧ ((y * W + x : Nat) : Int) < (p.Cells.length : Int)) := by
  have hwh := f.wh
  have hp := place_lt hx hy
  refine ⟨?_, by omega, by rw [f.len]; omega⟩
  rw [← Int.natCast_mul, w64_id (n := ((y * W : Nat) : Int)) (by omega) (by omega), w64_id (by omega) (by omega)]; rfl
/-! ### the changed patterns -/
theorem blank01 {W H : Nat} (h : W * H ≤ 40000) : ref01_Blank W H = some ⟨W, H, List.replicate (W * H) 0⟩ := by
  unfold ref01_Blank
  rw [← Int.natCast_mul, w64_id (n := ((W * H : Nat) : Int)) (by omega) (by omega), if_pos (by omega), Int.toNat_natCast]
end Gp
set_option linter.unusedVariables false
set_option linter.unusedSimpArgs false
namespace Gp
open Gw Gq
/-! ### cuts -/
/-! ### patterns, repeated -/
/-! ### what is equal -/
end Gp
set_option linter.unusedVariables false
set_option linter.unusedSimpArgs false
namespace Gp
open Gw Gq
/-! ### changed sets -/
def upT (t : Tile) : Tile := ⟨t.S, t.E, t.N, t.W⟩
structure Chg (f : Tile → Tile) : Prop where
  inj : ∀ a b, f a = f b → a = b
  col : ∀ t, colB (f t) = colB t
theorem chg_up : Chg upT := ⟨fun a b h => by cases a; cases b; simp only [upT, Tile.mk.injEq] at h; obtain ⟨rfl, rfl, rfl, rfl⟩ := h; rfl, fun t => by unfold colB upT; simp only; cases inCol t.N <;> cases inCol t.E <;> cases inCol t.S <;> cases inCol t.W <;> rfl⟩
theorem getD_map (f : Tile → Tile) {s : List Tile} {i : Nat} (h : i < s.length) : (s.map f).getD i z_Tile = f (s.getD i z_Tile) := by simp [List.getElem?_eq_getElem h]
theorem Chg.valid {f : Tile → Tile} (c : Chg f) {s : List Tile} (hv : validT s = true) : validT (s.map f) = true := by
  unfold validT at hv ⊢
  simp only [Bool.and_eq_true, decide_eq_true_eq, List.all_eq_true, List.mem_range, List.length_map] at hv ⊢
  refine ⟨hv.1, fun i hi => ?_⟩
  have := hv.2 i hi
  unfold newB at this ⊢
  rw [getD_map f hi, ← List.map_take, c.col]
  simp only [Bool.and_eq_true, Bool.not_eq_true', decide_eq_false_iff_not] at this ⊢
  refine ⟨fun hm => this.1 ?_, this.2⟩
  obtain ⟨a, ha, he⟩ := List.mem_map.1 hm
  rw [← c.inj _ _ he]; exact ha
/-! ### how the tiles of a grid meet -/
def JP (W H : Nat) (round : Bool) (T : Nat → Nat → Tile) : Prop :=
  (∀ y x, y < H → x < W → (x + 1 < W ∨ round = true) → (T y x).E = (T y ((x + 1) % W)).W) ∧ (∀ y x, y < H → x < W → (y + 1 < H ∨ round = true) → (T y x).N = (T ((y + 1) % H) x).S)
theorem JP.congr {W H : Nat} {round : Bool} {T T' : Nat → Nat → Tile} (he : ∀ y x, y < H → x < W → T y x = T' y x) (h : JP W H round T) : JP W H round T' := by
  refine ⟨fun y x hy hx hr => ?_, fun y x hy hx hr => ?_⟩
  · rw [← he y x hy hx, ← he y _ hy (Nat.mod_lt _ (by omega))]; exact h.1 y x hy hx hr
  · rw [← he y x hy hx, ← he _ x (Nat.mod_lt _ (by omega)) hx]; exact h.2 y x hy hx hr
def GP (W H : Nat) (c : Nat → Nat → Int) : Pattern := ⟨W, H, grid W H c⟩
def TT (s : List Tile) (c : Nat → Nat → Int) (y x : Nat) : Tile := s.getD (c y x).toNat z_Tile
theorem join_iff {s : List Tile} {W H : Nat} {c : Nat → Nat → Int} (hW : 1 ≤ W) (hH : 1 ≤ H) (round : Bool) : ((List.range (H * W)).all fun i => rightB s (GP W H c) W H round i && upB s (GP W H c) W H round i) = true ↔ JP W H round (TT s c) := by
  have et : ∀ y x, y < H → x < W → tl s (GP W H c) (y * W + x) = TT s c y x := fun y x hy hx => by
    unfold tl GP TT
    simp only
    rw [grid_get W H c hx hy]
  have q1 : ∀ y x, x < W → (y * W + x) % W = x := fun y x hx => by rw [Nat.mul_comm, Nat.mul_add_mod, Nat.mod_eq_of_lt hx]
  have q2 : ∀ y x, x < W → (y * W + x) / W = y := fun y x hx => by rw [Nat.mul_comm, Nat.mul_add_div (by omega), Nat.div_eq_of_lt hx]; omega
  have key : ∀ y x, y < H → x < W → ((rightB s (GP W H c) W H round (y * W + x) = true ↔ ((x + 1 < W ∨ round = true) → (TT s c y x).E = (TT s c y ((x + 1) % W)).W)) ∧ (upB s (GP W H c) W H round (y * W + x) = true ↔ ((y + 1 < H ∨ round = true) → (TT s c y x).N = (TT s c ((y + 1) % H) x).S))) := fun y x hy hx => by
    unfold rightB upB
    rw [q1 y x hx, q2 y x hx, et y x hy hx, et y _ hy (Nat.mod_lt _ (by omega)), et _ x (Nat.mod_lt _ (by omega)) hx]
    constructor
    · by_cases h1 : x + 1 < W <;> cases round <;> simp [h1]
    · by_cases h1 : y + 1 < H <;> cases round <;> simp [h1]
  rw [List.all_eq_true]
  simp only [List.mem_range, Bool.and_eq_true]
  constructor
  · intro h
    exact ⟨fun y x hy hx => (key y x hy hx).1.1 (h _ (place_lt hx hy)).1, fun y x hy hx => (key y x hy hx).2.1 (h _ (place_lt hx hy)).2⟩
  · intro h i hi
    have hx : i % W < W := Nat.mod_lt _ (by omega)
    have hy : i / W < H := Nat.div_lt_of_lt_mul (by rw [Nat.mul_comm]; exact hi)
    have ei : i / W * W + i % W = i := by rw [Nat.mul_comm, Nat.div_add_mod]
    have := key _ _ hy hx
    rw [ei] at this
    exact ⟨this.1.2 (h.1 _ _ hy hx), this.2.2 (h.2 _ _ hy hx)⟩
structure GOK (s : List Tile) (W H : Nat) (c : Nat → Nat → Int) (whole : Bool) : Prop where
  valid : validT s = true
  dW : 1 ≤ W ∧ W ≤ 40000
  dH : 1 ≤ H ∧ H ≤ 40000
  wh : H * W ≤ 40000
  cel : ∀ y x, y < H → x < W → 0 ≤ c y x ∧ c y x < (s.length : Int)
  fits : JP W H false (TT s c)
  round : whole = true ↔ JP W H true (TT s c)
theorem pform_of {s : List Tile} {W H : Nat} {c : Nat → Nat → Int} (dW : 1 ≤ W ∧ W ≤ 40000) (dH : 1 ≤ H ∧ H ≤ 40000) (wh : H * W ≤ 40000) (cel : ∀ y x, y < H → x < W → 0 ≤ c y x ∧ c y x < (s.length : Int)) : PForm s (GP W H c) W H := by
  refine ⟨rfl, rfl, dW, dH, wh, grid_len W H c, fun j hj => ?_⟩
  have hx : j % W < W := Nat.mod_lt _ (by omega)
  have hy : j / W < H := Nat.div_lt_of_lt_mul (by rw [Nat.mul_comm]; exact hj)
  have ej : j / W * W + j % W = j := by rw [Nat.mul_comm, Nat.div_add_mod]
  have := grid_get W H c hx hy
  rw [ej] at this
  show 0 ≤ (grid W H c).getD j 0 ∧ _
  rw [show (GP W H c).Cells = grid W H c from rfl, this]
  exact cel _ _ hy hx
theorem valid_len {s : List Tile} (hv : validT s = true) : s.length ≤ 1000 := by unfold validT at hv; simp only [Bool.and_eq_true, decide_eq_true_eq] at hv; exact hv.1
theorem GOK.congr {s : List Tile} {W H : Nat} {c c' : Nat → Nat → Int} {whole : Bool} (g : GOK s W H c whole) (he : ∀ y x, y < H → x < W → c y x = c' y x) : GOK s W H c' whole := by
  have ht : ∀ y x, y < H → x < W → TT s c y x = TT s c' y x := fun y x hy hx => by unfold TT; rw [he y x hy hx]
  exact ⟨g.valid, g.dW, g.dH, g.wh, fun y x hy hx => by rw [← he y x hy hx]; exact g.cel y x hy hx, g.fits.congr ht, g.round.trans ⟨fun h => h.congr ht, fun h => h.congr (fun y x hy hx => (ht y x hy hx).symm)⟩⟩
theorem TT_map {f : Tile → Tile} {s : List Tile} {c : Nat → Nat → Int} {y x : Nat} (h : 0 ≤ c y x ∧ c y x < (s.length : Int)) : TT (s.map f) c y x = f (TT s c y x) := by
  unfold TT
  rw [getD_map f (by omega)]
/-! mirrored -/
theorem mod_back {W x : Nat} (hx : x < W) : (W - 1 - (x + 1) % W + 1) % W = W - 1 - x ∧ W - 1 - (x + 1) % W < W ∧ (x + 1 < W → W - 1 - (x + 1) % W + 1 < W) := by
  by_cases h : x + 1 < W
  · rw [Nat.mod_eq_of_lt h, show W - 1 - (x + 1) + 1 = W - 1 - x by omega, Nat.mod_eq_of_lt (by omega)]; omega
  · have e : x + 1 = W := by omega
    rw [e, Nat.mod_self, show W - 1 - 0 + 1 = W by omega, Nat.mod_self]; omega
theorem JP.up {W H : Nat} {round : Bool} {T : Nat → Nat → Tile} (h : JP W H round T) : JP W H round (fun y x => upT (T (H - 1 - y) x)) := by
  refine ⟨fun y x hy hx hr => ?_, fun y x hy hx hr => ?_⟩
  · exact h.1 (H - 1 - y) x (by omega) hx hr
  · obtain ⟨e, hlt, hi⟩ := mod_back hy
    have := h.2 (H - 1 - (y + 1) % H) x hlt hx (hr.imp hi id)
    rw [e] at this
    exact this.symm
theorem GOK.up {s : List Tile} {W H : Nat} {c : Nat → Nat → Int} {whole : Bool} (g : GOK s W H c whole) : GOK (s.map upT) W H (fun y x => c (H - 1 - y) x) whole := by
  have hdH := g.dH
  have ht : ∀ y x, y < H → x < W → upT (TT s c (H - 1 - y) x) = TT (s.map upT) (fun y x => c (H - 1 - y) x) y x := fun y x hy hx => by
    exact (TT_map (f := upT) (c := fun y x => c (H - 1 - y) x) (y := y) (x := x) (g.cel (H - 1 - y) x (by omega) hx)).symm
  refine ⟨chg_up.valid g.valid, g.dW, g.dH, g.wh, fun y x hy hx => by rw [List.length_map]; exact g.cel _ x (by omega) hx, g.fits.up.congr ht, ?_⟩
  rw [g.round]
  constructor
  · exact fun h => h.up.congr ht
  · intro h
    have := (h.congr (fun y x hy hx => (ht y x hy hx).symm)).up
    exact this.congr fun y x hy hx => by
      rw [show H - 1 - (H - 1 - y) = y by omega]; rfl
theorem GP.g {W H : Nat} {c : Nat → Nat → Int} (dW : 1 ≤ W ∧ W ≤ 40000) (dH : 1 ≤ H ∧ H ≤ 40000) (wh : H * W ≤ 40000) : GForm (GP W H c) W H := ⟨rfl, rfl, dW, dH, wh, grid_len W H c⟩
theorem GP.cell {W H : Nat} (c : Nat → Nat → Int) {y x : Nat} (hy : y < H) (hx : x < W) : cellG (GP W H c) W y x = c y x := grid_get W H c hx hy
end Gp
set_option linter.unusedVariables false
set_option linter.unusedSimpArgs false
namespace Gp
open Gw Gq
theorem fitsG {s : List Tile} {W H : Nat} {c : Nat → Nat → Int} (hv : validT s = true) (dW : 1 ≤ W ∧ W ≤ 40000) (dH : 1 ≤ H ∧ H ≤ 40000) (wh : H * W ≤ 40000) (cel : ∀ y x, y < H → x < W → 0 ≤ c y x ∧ c y x < (s.length : Int)) (hj : JP W H false (TT s c)) {k : Nat} (hk : 40001 ≤ k) : tile_Fits k s (GP W H c) = some true := by
  have hl := valid_len hv
  rw [fits_eq (pform_of dW dH wh cel) hv (by omega) hk, (join_iff dW.1 dH.1 false).2 hj]
end Gp
set_option linter.unusedVariables false
set_option linter.unusedSimpArgs false
namespace Gp
open Gw Gq
/-! the reference -/
/-! equal sets -/
end Gp
set_option linter.unusedVariables false
set_option linter.unusedSimpArgs false
namespace Gq
theorem loop_list {α σ τ : Type} {F : Nat → Int → σ → Option τ} (xs : List α) (step : σ → α → σ) (K : Nat) (P : Nat → σ → Prop) (fin : σ → τ)
    (hs : ∀ k i s (h : i < xs.length), K ≤ k → P i s → F (k + 1) (i : Int) s = F k ((i + 1 : Nat) : Int) (step s xs[i]) ∧ P (i + 1) (step s xs[i])) (he : ∀ k s, P xs.length s → F (k + 1) (xs.length : Int) s = some (fin s)) :
    ∀ (s0 : σ), P 0 s0 → ∀ k, xs.length + K < k → F k 0 s0 = some (fin (xs.foldl step s0)) := by
  have key : ∀ d i s k, i + d = xs.length → P i s → d + K < k → F k (i : Int) s = some (fin ((xs.drop i).foldl step s)) := by
    intro d
    induction d with
    | zero =>
      intro i s k hi hp hk
      obtain ⟨k, rfl⟩ : ∃ m, k = m + 1 := ⟨k - 1, by omega⟩
      have : i = xs.length := by omega
      subst this
      rw [he k s hp, List.drop_length]; rfl
    | succ d ih =>
      intro i s k hi hp hk
      obtain ⟨k, rfl⟩ : ∃ m, k = m + 1 := ⟨k - 1, by omega⟩
      have hlt : i < xs.length := by omega
      obtain ⟨h1, h2⟩ := hs k i s hlt (by omega) hp
      rw [h1, ih (i + 1) _ k (by omega) h2 (by omega), List.drop_eq_getElem_cons hlt]; rfl
  intro s0 h0 k hk
  have := key xs.length 0 s0 k (by omega) h0 hk
  simpa using this
end Gq
namespace Gp
open Gw Gq
/-! ### words, rows -/
def tat (set : List Tile) (i : Nat) : Tile := set.getD i z_Tile
def cz (c : List Nat) : List Int := c.map fun (i : Nat) => (i : Int)
def wordOf (l : List Int) : A8_Int := ⟨l.getD 0 0, l.getD 1 0, l.getD 2 0, l.getD 3 0, l.getD 4 0, l.getD 5 0, l.getD 6 0, l.getD 7 0⟩
def mkR (set : List Tile) (c : List Nat) : Row := ⟨cz c, wordOf (c.map fun i => (tat set i).S), wordOf (c.map fun i => (tat set i).N), (tat set (c.headD 0)).W, (tat set (c.getLastD 0)).E⟩
def follows (set : List Tile) (c : List Nat) (i : Nat) : Bool := match c.getLast? with
  | none => true
  | some j => (tat set j).E == (tat set i).W
def rowsL (set : List Tile) : Nat → List Nat → List (List Nat)
  | 0, c => [c]
  | n + 1, c => ((List.range set.length).filter (follows set c)).flatMap fun i => rowsL set n (c ++ [i])
theorem wordOf_get (l : List Int) (i : Nat) (hi : i < 8) : (wordOf l).get i = l.getD i 0 := by
  have : i = 0 ∨ i = 1 ∨ i = 2 ∨ i = 3 ∨ i = 4 ∨ i = 5 ∨ i = 6 ∨ i = 7 := by omega
  rcases this with rfl | rfl | rfl | rfl | rfl | rfl | rfl | rfl <;> rfl
theorem wordOf_inj {a b : List Int} (ha : a.length ≤ 8) (h : a.length = b.length) : wordOf a = wordOf b ↔ a = b := by
  constructor
  · intro e
    apply List.ext_getElem? 
    intro i
    by_cases hi : i < a.length
    · have h1 := wordOf_get a i (by omega)
      have h2 := wordOf_get b i (by omega)
      rw [e, h2] at h1
      rw [List.getElem?_eq_getElem hi, List.getElem?_eq_getElem (by omega)]
      simp only [List.getD, List.getElem?_eq_getElem hi, List.getElem?_eq_getElem (show i < b.length by omega), Option.getD_some] at h1
      rw [h1]
    · rw [List.getElem?_eq_none (by omega), List.getElem?_eq_none (by omega)]
  · intro e; rw [e]
theorem wordOf_set (l : List Int) (v : Int) (hl : l.length < 8) : (wordOf l).set l.length v = wordOf (l ++ [v]) := by
  have : l.length = 0 ∨ l.length = 1 ∨ l.length = 2 ∨ l.length = 3 ∨ l.length = 4 ∨ l.length = 5 ∨ l.length = 6 ∨ l.length = 7 := by omega
  match l, this with
  | [], _ => rfl
  | [a], _ => rfl
  | [a, b], _ => rfl
  | [a, b, c], _ => rfl
  | [a, b, c, d], _ => rfl
  | [a, b, c, d, e], _ => rfl
  | [a, b, c, d, e, f], _ => rfl
  | [a, b, c, d, e, f, g], _ => rfl
  | _ :: _ :: _ :: _ :: _ :: _ :: _ :: _ :: l, h => simp at h
theorem rowOf_l0 (set : List Tile) (c : List Nat) (hc : ∀ i ∈ c, i < set.length) (h8 : c.length ≤ 8) {k : Nat} (hk : c.length < k) :
    rows_rowOf.l0 k (A8_Int.mk 0 0 0 0 0 0 0 0) (A8_Int.mk 0 0 0 0 0 0 0 0) 0 set (cz c) = some (wordOf (c.map fun i => (tat set i).S), wordOf (c.map fun i => (tat set i).N)) := by
  have key : ∀ d i k, i + d = c.length → d < k → rows_rowOf.l0 k (wordOf ((c.take i).map fun i => (tat set i).S)) (wordOf ((c.take i).map fun i => (tat set i).N)) (i : Int) set (cz c) = some (wordOf (c.map fun i => (tat set i).S), wordOf (c.map fun i => (tat set i).N)) := by
    intro d
    induction d with
    | zero =>
      intro i k hi hk
      obtain ⟨k, rfl⟩ : ∃ m, k = m + 1 := ⟨k - 1, by omega⟩
      have : i = c.length := by omega
      subst this
      rw [rows_rowOf.l0, if_neg (by simp [cz]), List.take_length]
    | succ d ih =>
      intro i k hi hk
      obtain ⟨k, rfl⟩ : ∃ m, k = m + 1 := ⟨k - 1, by omega⟩
      have hlt : i < c.length := by omega
      have hci := hc c[i] (List.getElem_mem _)
      have hz : rdD (cz c) (i : Int) 0 = ((c[i] : Nat) : Int) := by rw [rdD_get (by simpa [cz] using hlt)]; simp [cz]
      rw [rows_rowOf.l0, if_pos (by simp [cz]; omega), if_pos (by simp [cz]; omega), hz, if_pos (by omega), if_pos (by omega), w64_id (by omega) (by omega), rdD_nat]
      have e1 := wordOf_set ((c.take i).map fun i => (tat set i).S) (tat set c[i]).S (by simp; omega)
      have e2 := wordOf_set ((c.take i).map fun i => (tat set i).N) (tat set c[i]).N (by simp; omega)
      have hlen : ((c.take i).map fun i => (tat set i).S).length = i := by simp; omega
      have hlen2 : ((c.take i).map fun i => (tat set i).N).length = i := by simp; omega
      rw [hlen] at e1; rw [hlen2] at e2
      have ht : c.take (i + 1) = c.take i ++ [c[i]] := by rw [List.take_add_one, List.getElem?_eq_getElem hlt]; rfl
      show rows_rowOf.l0 k (A8_Int.set _ i (tat set c[i]).S) (A8_Int.set _ i (tat set c[i]).N) _ set (cz c) = _
      rw [e1, e2]
      have := ih (i + 1) k (by omega) (by omega)
      rw [ht, List.map_append, List.map_append] at this
      exact this
  exact key c.length 0 k (by omega) hk
theorem rowOf_eq (set : List Tile) (c : List Nat) (hc : ∀ i ∈ c, i < set.length) (h8 : c.length ≤ 8) (h1 : 1 ≤ c.length) {k : Nat} (hk : c.length < k) : rows_rowOf k set (cz c) = some (mkR set c) := by
  have hl : (cz c).length = c.length := by simp [cz]
  have h0 : rdD (cz c) (0 : Int) 0 = ((c.headD 0 : Nat) : Int) := by
    cases c with
    | nil => simp at h1
    | cons a r => rfl
  have hn : c ≠ [] := by intro e; rw [e] at h1; simp at h1
  have hh : c.headD 0 < set.length := by
    cases c with
    | nil => simp at h1
    | cons a r => exact hc a (by simp)
  have hlast : c.getLastD 0 < set.length := by
    rw [List.getLastD_eq_getLast?, List.getLast?_eq_some_getLast hn]; exact hc _ (List.getLast_mem hn)
  have hw : w64 (((cz c).length : Int) - 1) = ((c.length - 1 : Nat) : Int) := by rw [hl, w64_id (by omega) (by omega)]; omega
  have hz : rdD (cz c) (((c.length - 1 : Nat) : Int)) 0 = ((c.getLastD 0 : Nat) : Int) := by
    rw [rdD_get (by rw [hl]; omega)]
    rw [List.getLastD_eq_getLast?, List.getLast?_eq_some_getLast hn, Option.getD_some, List.getLast_eq_getElem]
    simp [cz]
  unfold rows_rowOf
  rw [rowOf_l0 set c hc h8 hk, hw, hz, h0, if_pos (by simp [cz]; omega), Option.bind_some, if_pos (by rw [hl]; omega), if_pos (by omega), if_pos (by rw [hl]; omega), if_pos (by omega), rdD_nat, rdD_nat]
  rfl
theorem all1 (set : List Tile) (w : Nat) (h1 : 1 ≤ w) (h8 : w ≤ 8) (hl : set.length ≤ 1000000) : ∀ (n x : Nat) (c : List Nat) (out : List Row) (cells : List Int) (k : Nat), x + n = w → c.length = x → (∀ i ∈ c, i < set.length) → cells.length = w → cells.take x = cz c →
    out.length + (rowsL set n c).length ≤ 100000000000 → n + set.length + 10 < k → ∃ cells', rows_All_1 k (x : Int) (w : Int) out set cells = some (out ++ (rowsL set n c).map (mkR set), cells') ∧ cells'.length = w ∧ cells'.take x = cz c := by
  intro n
  induction n with
  | zero =>
    intro x c out cells k hx hc hcs hcl hct hb hk
    obtain ⟨k, rfl⟩ : ∃ m, k = m + 1 := ⟨k - 1, by omega⟩
    have hxw : x = w := by omega
    subst hxw
    have he : cells = cz c := by rw [← hct, ← hcl, List.take_length]
    refine ⟨cells, ?_, hcl, hct⟩
    rw [rows_All_1, if_pos (by simp), he, rowOf_eq set c hcs (by omega) (by omega) (by omega), Option.bind_some, if_pos (by simp [rowsL] at hb; omega)]
    rfl
  | succ n ih =>
    intro x c out cells k hx hc hcs hcl hct hb hk
    obtain ⟨k, rfl⟩ : ∃ m, k = m + 1 := ⟨k - 1, by omega⟩
    have key : ∀ d i k' (out : List Row) (cells : List Int), i + d = set.length → d < k' → cells.length = w → cells.take x = cz c → out.length + (((List.range' i d).filter (follows set c)).flatMap fun i => rowsL set n (c ++ [i])).length ≤ 100000000000 →
        ∃ cells', rows_All_1.l0 k' out cells (i : Int) (x : Int) (w : Int) set (rows_All_1 k) = some (out ++ (((List.range' i d).filter (follows set c)).flatMap fun i => rowsL set n (c ++ [i])).map (mkR set), cells') ∧ cells'.length = w ∧ cells'.take x = cz c := by
      intro d
      induction d with
      | zero =>
        intro i k' out cells hi hk' hcl hct hb
        obtain ⟨k', rfl⟩ : ∃ m, k' = m + 1 := ⟨k' - 1, by omega⟩
        have : i = set.length := by omega
        subst this
        refine ⟨cells, ?_, hcl, hct⟩
        rw [rows_All_1.l0, if_neg (by simp)]; simp
      | succ d ihd =>
        intro i k' out cells hi hk' hcl hct hb
        obtain ⟨k', rfl⟩ : ∃ m, k' = m + 1 := ⟨k' - 1, by omega⟩
        have hlt : i < set.length := by omega
        have hcond : (if ((x : Int) == 0) = true then (some true) else (if 0 ≤ w64 ((x : Int) - 1) ∧ w64 ((x : Int) - 1) < (cells.length : Int) then (if 0 ≤ (rdD cells (w64 ((x : Int) - 1)) 0) ∧ (rdD cells (w64 ((x : Int) - 1)) 0) < (set.length : Int) then (some (((rdD set (rdD cells (w64 ((x : Int) - 1)) 0) z_Tile).E) == ((rdD set (i : Int) z_Tile).W))) else none) else none)) = some (follows set c i) := by
          by_cases h0 : x = 0
          · subst h0
            have : c = [] := List.eq_nil_of_length_eq_zero hc
            subst this
            rfl
          · have hn : c ≠ [] := by intro e; rw [e] at hc; simp at hc; omega
            have hw : w64 ((x : Int) - 1) = ((x - 1 : Nat) : Int) := by rw [w64_id (by omega) (by omega)]; omega
            have hz : rdD cells (((x - 1 : Nat) : Int)) 0 = ((c.getLast hn : Nat) : Int) := by
              rw [rdD_get (by omega)]
              have : cells[x - 1]'(by omega) = (cells.take x)[x - 1]'(by simp; omega) := by simp
              rw [this]
              simp only [hct, List.getLast_eq_getElem]
              simp [cz, hc]
            have hm := hcs _ (List.getLast_mem hn)
            rw [if_neg (by simp; omega), hw, if_pos (by omega), hz, if_pos (by omega), rdD_nat, rdD_nat]
            unfold follows
            rw [List.getLast?_eq_some_getLast hn]; rfl
        have hwi : w64 ((i : Int) + 1) = ((i + 1 : Nat) : Int) := by rw [w64_id (by omega) (by omega)]; rfl
        rw [rows_All_1.l0, if_pos (by simpa using hlt), if_pos (by omega), hcond, Option.bind_some, hwi]
        rw [List.range'_succ, List.filter_cons] at hb ⊢
        cases hf : follows set c i
        · rw [hf] at hb
          simp only [Bool.false_eq_true, if_false] at hb ⊢
          rw [Option.bind_some]
          exact ihd (i + 1) k' out cells (by omega) (by omega) hcl hct hb
        · rw [hf] at hb
          simp only [if_true, List.flatMap_cons, List.length_append] at hb ⊢
          have hset : (cells.set x (i : Int)).take (x + 1) = cz (c ++ [i]) := by
            rw [List.take_add_one, List.take_set_of_le (Nat.le_refl _), hct, List.getElem?_set_self (by omega)]
            simp [cz]
          have hw1 : w64 ((x : Int) + 1) = ((x + 1 : Nat) : Int) := by rw [w64_id (by omega) (by omega)]; rfl
          obtain ⟨cells1, e1, l1, t1⟩ := ih (x + 1) (c ++ [i]) out (cells.set x (i : Int)) k (by omega) (by simp [hc]) (fun j hj => by
            rcases List.mem_append.1 hj with hj | hj
            · exact hcs j hj
            · simp at hj; omega) (by simp [hcl]) hset (by omega) (by omega)
          have t1' : cells1.take x = cz c := by
            have : cells1.take x = (cells1.take (x + 1)).take x := by rw [List.take_take, Nat.min_eq_left (by omega)]
            rw [this, t1]
            simp [cz, ← hc]
          obtain ⟨cells2, e2, l2, t2⟩ := ihd (i + 1) k' (out ++ (rowsL set n (c ++ [i])).map (mkR set)) cells1 (by omega) (by omega) l1 t1' (by simp only [List.length_append, List.length_map]; omega)
          refine ⟨cells2, ?_, l2, t2⟩
          rw [if_pos (by omega), hw1]
          simp only [Int.toNat_natCast]
          rw [e1, Option.bind_some, Option.bind_some]
          show rows_All_1.l0 k' _ cells1 ((i + 1 : Nat) : Int) _ _ _ _ = _
          rw [e2, List.map_append, List.append_assoc]
    rw [rowsL] at hb
    rw [List.range_eq_range'] at hb
    obtain ⟨cells', e, l, t⟩ := key set.length 0 k out cells (by omega) (by omega) hcl hct hb
    refine ⟨cells', ?_, l, t⟩
    rw [rows_All_1, if_neg (by simp; omega)]
    have e' : rows_All_1.l0 k out cells 0 (x : Int) (w : Int) set (rows_All_1 k) = _ := e
    rw [e', Option.bind_some, rowsL, List.range_eq_range']
theorem rowsL_len (set : List Tile) : ∀ (n : Nat) (c : List Nat), (rowsL set n c).length ≤ set.length ^ n
  | 0, c => by simp [rowsL]
  | n + 1, c => by
    rw [rowsL, List.length_flatMap]
    have : ∀ l : List Nat, (l.map fun i => (rowsL set n (c ++ [i])).length).sum ≤ l.length * set.length ^ n := by
      intro l
      induction l with
      | nil => simp
      | cons a r ih =>
        simp only [List.map_cons, List.sum_cons, List.length_cons]
        have := rowsL_len set n (c ++ [a])
        rw [Nat.add_mul]; omega
    refine Nat.le_trans (this _) ?_
    have h2 : ((List.range set.length).filter (follows set c)).length ≤ set.length := by
      have := List.length_filter_le (follows set c) (List.range set.length); simpa using this
    rw [Nat.pow_succ, Nat.mul_comm (set.length ^ n)]
    exact Nat.mul_le_mul_right _ h2
def allR (set : List Tile) (w : Nat) : List Row := (rowsL set w []).map (mkR set)
theorem all_eq (set : List Tile) (w : Nat) (h1 : 1 ≤ w) (h8 : w ≤ 8) (hl : set.length ≤ 1000000) (hf : set.length ^ w ≤ 100000000000) {k : Nat} (hk : set.length + 20 < k) : rows_All k set (w : Int) = some (allR set w) := by
  have hb := rowsL_len set w []
  obtain ⟨cells, e, _, _⟩ := all1 set w h1 h8 hl w 0 [] [] (List.replicate w 0) k (by omega) rfl (fun i h => by cases h) (by simp) (by simp [cz]) (by simp; omega) (by omega)
  unfold rows_All
  have e' : rows_All_1 k 0 (w : Int) [] set (List.replicate w 0) = _ := e
  rw [if_pos (by omega), Int.toNat_natCast, e']; rfl
/-! few -/
def fewB (n w : Nat) : Bool := decide ((max n 1) ^ w ≤ 5000)
theorem few_eq (set : List Tile) (w : Nat) (hw : w ≤ 1000) (hl : set.length ≤ 1000000) {k : Nat} (hk : w < k) : rows_Few k set (w : Int) = some (fewB set.length w) := by
  have hm : maxI (set.length : Int) 1 = ((max set.length 1 : Nat) : Int) := by unfold maxI; split <;> omega
  obtain ⟨m, hmd⟩ : ∃ m, max set.length 1 = m := ⟨_, rfl⟩
  have hm1 : 1 ≤ m := by omega
  have hm2 : m ≤ 1000000 := by omega
  have key : ∀ d i k, i + d = w → d < k → m ^ i ≤ 5000 → rows_Few.l0 k ((m ^ i : Nat) : Int) (i : Int) set (w : Int) = some (if m ^ w ≤ 5000 then .inr () else .inl false) := by
    intro d
    induction d with
    | zero =>
      intro i k hi hk hp
      obtain ⟨k, rfl⟩ : ∃ m, k = m + 1 := ⟨k - 1, by omega⟩
      have : i = w := by omega
      subst this
      rw [rows_Few.l0, if_neg (by simp), if_pos hp]
    | succ d ih =>
      intro i k hi hk hp
      obtain ⟨k, rfl⟩ : ∃ m, k = m + 1 := ⟨k - 1, by omega⟩
      have hpp : m ^ i * m ≤ 5000 * 1000000 := Nat.mul_le_mul hp hm2
      have e : w64 (((m ^ i : Nat) : Int) * maxI (set.length : Int) 1) = ((m ^ (i + 1) : Nat) : Int) := by
        rw [hm, hmd, ← Int.natCast_mul, Nat.pow_succ, w64_id (by omega) (by omega)]
      have hle : m ^ (i + 1) ≤ m ^ w := Nat.pow_le_pow_right hm1 (by omega)
      obtain ⟨q, hq⟩ : ∃ q, m ^ (i + 1) = q := ⟨_, rfl⟩
      rw [rows_Few.l0, if_pos (by simp; omega), e]
      have hwi : w64 ((i : Int) + 1) = ((i + 1 : Nat) : Int) := by rw [w64_id (by omega) (by omega)]; rfl
      by_cases h5 : q ≤ 5000
      · rw [if_neg (by rw [hq]; simp; omega), hwi]
        exact ih (i + 1) k (by omega) (by omega) (by rw [hq]; exact h5)
      · rw [if_pos (by rw [hq]; simp; omega), if_neg]
        intro hw5
        omega
  have := key w 0 k (by omega) hk (by simp)
  have h0 : rows_Few.l0 k 1 0 set (w : Int) = _ := this
  unfold rows_Few fewB
  rw [h0, hmd]
  by_cases h5 : m ^ w ≤ 5000
  · rw [if_pos h5]; simp [sumb, h5]
  · rw [if_neg h5]; simp [sumb, h5]
end Gp
set_option linter.unusedVariables false
set_option linter.unusedSimpArgs false
namespace Gq
open Gw
theorem mget_mput {κ ν : Type} [DecidableEq κ] (x y : κ) (z v : ν) : ∀ l : List (κ × ν), mget x z (mput y v l) = if x = y then v else mget x z l
  | [] => by simp [mput, mget]
  | p :: r => by
    simp only [mput]
    by_cases h : y = p.1
    · rw [if_pos h]
      simp only [mget]
      by_cases hx : x = y
      · rw [if_pos hx, if_pos hx]
      · rw [if_neg hx, if_neg hx, if_neg (fun e => hx (e.trans h.symm))]
    · rw [if_neg h]
      simp only [mget]
      by_cases hx : x = p.1
      · rw [if_pos hx, if_pos hx, if_neg (fun e => h (e.symm.trans hx))]
      · rw [if_neg hx, if_neg hx]; exact mget_mput x y z v r
end Gq
namespace Gp
open Gw Gq
/-! ### rectangles that are filled -/
def atB (l : List Int) (i : Nat) (c : Int) : Bool := decide (l.length = 0) || l.getD i 0 == c
theorem at_eq' (l : List Int) (i : Nat) (c : Int) (h : l.length = 0 ∨ i < l.length) : fill_at l (i : Int) c = some (atB l i c) := by
  unfold fill_at atB
  by_cases h0 : l.length = 0
  · rw [if_pos (by simp [h0])]; simp [h0]
  · rw [if_neg (by simp; simpa using h0), if_pos (by omega), rdD_nat]; simp [h0]
structure EdgeOK (e : Edges) (w h : Nat) : Prop where
  n : e.North.length = 0 ∨ e.North.length = w
  s : e.South.length = 0 ∨ e.South.length = w
  ea : e.East.length = 0 ∨ e.East.length = h
  we : e.West.length = 0 ∨ e.West.length = h
def colE (e : Edges) (h : Nat) (r : Row) (y x : Nat) : Bool := (!(decide (y = 0)) || atB e.South x (r.South.get x)) && (!(decide (y + 1 = h)) || atB e.North x (r.North.get x))
def alB (e : Edges) (w h : Nat) (r : Row) (y : Nat) : Bool := atB e.West y r.West && atB e.East y r.East && (List.range w).all (colE e h r y)
theorem allows_eq {e : Edges} {w h : Nat} (he : EdgeOK e w h) (hw : w ≤ 8) (hh : h ≤ 1000) (R : List Row) (r : Row) {y : Nat} (hy : y < h) {k : Nat} (hk : w < k) : fill_job_allows k ⟨R, w, h, e⟩ r (y : Int) = some (alB e w h r y) := by
  have hl := loop_all (F := fun k x (_ : Unit) => fill_job_allows.l0 k x ⟨R, w, h, e⟩ r (y : Int)) (S := fun _ => ()) (b := colE e h r y) (n := w) (K := 0) (r := false) (e := ()) (fun k x _ hx => by
    show fill_job_allows.l0 (k + 1) x ⟨R, w, h, e⟩ r (y : Int) = if colE e h r y x = true then fill_job_allows.l0 k ((x + 1 : Nat) : Int) ⟨R, w, h, e⟩ r (y : Int) else _
    have hwx : w64 ((x : Int) + 1) = ((x + 1 : Nat) : Int) := by rw [w64_id (by omega) (by omega)]; rfl
    have hwh : w64 ((h : Int) - 1) = ((h - 1 : Nat) : Int) := by rw [w64_id (by omega) (by omega)]; omega
    have hx8 : 0 ≤ (x : Int) ∧ (x : Int) < 8 := by omega
    have hS := at_eq' e.South x (r.South.get x) (he.s.imp id (fun h => by omega))
    have hN := at_eq' e.North x (r.North.get x) (he.n.imp id (fun h => by omega))
    rw [fill_job_allows.l0, if_pos (by simpa using hx), hwx, hwh]
    simp only [if_pos hx8, hS, hN, Option.bind_some]
    have e1 : ((y : Int) == ((h - 1 : Nat) : Int)) = decide (y + 1 = h) := by
      rw [Bool.eq_iff_iff]; simp; omega
    have e0 : ((y : Int) == 0) = decide (y = 0) := by rw [Bool.eq_iff_iff]; simp
    rw [e1, e0]
    unfold colE
    cases decide (y = 0) <;> cases decide (y + 1 = h) <;> cases atB e.South x (r.South.get x) <;> cases atB e.North x (r.North.get x) <;> simp) (fun k => by
    show fill_job_allows.l0 (k + 1) w ⟨R, w, h, e⟩ r (y : Int) = _
    rw [fill_job_allows.l0, if_neg (by simp)]) k (by omega)
  have h0 : fill_job_allows.l0 k 0 ⟨R, w, h, e⟩ r (y : Int) = some (if (List.range w).all (colE e h r y) = true then .inr () else .inl false) := hl
  unfold fill_job_allows alB
  rw [at_eq' e.West y r.West (he.we.imp id (fun h => by omega)), at_eq' e.East y r.East (he.ea.imp id (fun h => by omega)), h0]
  simp only [Option.bind_some]
  cases atB e.West y r.West <;> cases atB e.East y r.East <;> cases (List.range w).all (colE e h r y) <;> simp [sumb]
end Gp
set_option linter.unusedVariables false
set_option linter.unusedSimpArgs false
namespace Gp
open Gw Gq
theorem findIdx_lt {α : Type} {p : α → Bool} {l : List α} {i : Nat} (h : l.findIdx? p = some i) : ∃ hi : i < l.length, p l[i] = true := by
  rw [List.findIdx?_eq_some_iff_getElem] at h
  exact ⟨h.1, h.2.1⟩
/-! the whole function -/
def sidesB (e : Edges) (w h : Int) : Bool := (decide (e.North.length = 0) || decide ((e.North.length : Int) = w)) && (decide (e.South.length = 0) || decide ((e.South.length : Int) = w)) && (decide (e.East.length = 0) || decide ((e.East.length : Int) = h)) && (decide (e.West.length = 0) || decide ((e.West.length : Int) = h))
theorem begin_l0 (e : Edges) (w h : Int) (k : Nat) : fill_begin.l0 (k + 5) 0 w h e = some (if sidesB e w h = true then .inr () else .inl (none, 2)) := by
  have hside : ∀ (l : List Int) (n : Int), ((((l.length : Int) != 0) && ((l.length : Int) != n)) = !(decide (l.length = 0) || decide ((l.length : Int) = n))) := fun l n => by
    rw [Bool.eq_iff_iff]; simp
  have h1 : w64 (0 + 1) = 1 := by rw [w64_id (by omega) (by omega)]; rfl
  have h2 : w64 (1 + 1) = 2 := by rw [w64_id (by omega) (by omega)]; rfl
  have h3 : w64 (2 + 1) = 3 := by rw [w64_id (by omega) (by omega)]; rfl
  have h4 : w64 (3 + 1) = 4 := by rw [w64_id (by omega) (by omega)]; rfl
  unfold sidesB
  rw [fill_begin.l0, if_pos (by simp), if_pos (by simp), show rdD [(S_side_n.mk e.North w), (S_side_n.mk e.South w), (S_side_n.mk e.East h), (S_side_n.mk e.West h)] 0 z_S_side_n = S_side_n.mk e.North w from rfl, h1, hside]
  cases ha : (decide (e.North.length = 0) || decide ((e.North.length : Int) = w))
  · simp
  rw [if_neg (by simp), fill_begin.l0, if_pos (by simp), if_pos (by simp), show rdD [(S_side_n.mk e.North w), (S_side_n.mk e.South w), (S_side_n.mk e.East h), (S_side_n.mk e.West h)] 1 z_S_side_n = S_side_n.mk e.South w from rfl, h2, hside]
  cases hb : (decide (e.South.length = 0) || decide ((e.South.length : Int) = w))
  · simp
  rw [if_neg (by simp), fill_begin.l0, if_pos (by simp), if_pos (by simp), show rdD [(S_side_n.mk e.North w), (S_side_n.mk e.South w), (S_side_n.mk e.East h), (S_side_n.mk e.West h)] 2 z_S_side_n = S_side_n.mk e.East h from rfl, h3, hside]
  cases hc : (decide (e.East.length = 0) || decide ((e.East.length : Int) = h))
  · simp
  rw [if_neg (by simp), fill_begin.l0, if_pos (by simp), if_pos (by simp), show rdD [(S_side_n.mk e.North w), (S_side_n.mk e.South w), (S_side_n.mk e.East h), (S_side_n.mk e.West h)] 3 z_S_side_n = S_side_n.mk e.West h from rfl, h4, hside]
  cases hd : (decide (e.West.length = 0) || decide ((e.West.length : Int) = h))
  · simp
  rw [if_neg (by simp), fill_begin.l0, if_neg (by simp)]
  simp
theorem max_pow {n w : Nat} (h : fewB n w = true) : n ^ w ≤ 5000 := by
  unfold fewB at h
  rw [decide_eq_true_eq] at h
  exact Nat.le_trans (Nat.pow_le_pow_left (Nat.le_max_left n 1) w) h
theorem allR_len (set : List Tile) (w : Nat) : (allR set w).length ≤ set.length ^ w := by
  unfold allR; rw [List.length_map]; exact rowsL_len set w []
end Gp
set_option linter.unusedVariables false
set_option linter.unusedSimpArgs false
namespace Gp
open Gw Gq
/-! ### rows and patterns -/
theorem mem_rowsL0 (set : List Tile) : ∀ (n : Nat) (pre c : List Nat), c ∈ rowsL set n pre ↔ c.take pre.length = pre ∧ c.length = pre.length + n ∧ ∀ j, pre.length ≤ j → j < c.length → c.getD j 0 < set.length ∧ follows set (c.take j) (c.getD j 0) = true
  | 0, pre, c => by
    rw [rowsL, List.mem_singleton]
    constructor
    · intro h; subst h; exact ⟨List.take_length, rfl, fun j h1 h2 => by omega⟩
    · rintro ⟨h1, h2, _⟩
      rw [← h1, List.take_of_length_le (by omega)]
  | n + 1, pre, c => by
    rw [rowsL, List.mem_flatMap]
    constructor
    · rintro ⟨i, hi, hc⟩
      rw [List.mem_filter, List.mem_range] at hi
      obtain ⟨h1, h2, h3⟩ := (mem_rowsL0 set n (pre ++ [i]) c).1 hc
      rw [List.length_append, List.length_singleton] at h1 h2 h3
      have hp : c.take pre.length = pre := by
        have : c.take pre.length = (c.take (pre.length + 1)).take pre.length := by rw [List.take_take, Nat.min_eq_left (by omega)]
        rw [this, h1]; simp
      refine ⟨hp, by omega, fun j hj1 hj2 => ?_⟩
      by_cases e : j = pre.length
      · subst e
        have hg : c.getD pre.length 0 = i := by
          have h5 : (c.take (pre.length + 1))[pre.length]? = some i := by rw [h1]; simp
          rw [List.getElem?_take, if_pos (by omega)] at h5
          rw [List.getD_eq_getElem?_getD, h5]; rfl
        rw [hg, hp]; exact hi
      · exact h3 j (by omega) hj2
    · rintro ⟨h1, h2, h3⟩
      have hlt : pre.length < c.length := by omega
      obtain ⟨h4, h5⟩ := h3 pre.length (Nat.le_refl _) hlt
      rw [h1] at h5
      refine ⟨c.getD pre.length 0, ?_, (mem_rowsL0 set n _ c).2 ⟨?_, by simp; omega, fun j hj1 hj2 => h3 j (by simp at hj1; omega) hj2⟩⟩
      · rw [List.mem_filter, List.mem_range]; exact ⟨h4, h5⟩
      · rw [List.length_append, List.length_singleton, List.take_add_one, h1, List.getElem?_eq_getElem hlt]
        simp [List.getElem?_eq_getElem hlt]
structure RowOK (set : List Tile) (w : Nat) (c : List Nat) : Prop where
  len : c.length = w
  lt : ∀ x, x < w → c.getD x 0 < set.length
  adj : ∀ x, x + 1 < w → (tat set (c.getD x 0)).E = (tat set (c.getD (x + 1) 0)).W
theorem follows_take (set : List Tile) (c : List Nat) (j : Nat) (hj : j < c.length) (i : Nat) : follows set (c.take (j + 1)) i = ((tat set (c.getD j 0)).E == (tat set i).W) := by
  unfold follows
  have : (c.take (j + 1)).getLast? = some (c.getD j 0) := by
    have e : c.take (j + 1) = c.take j ++ [c[j]] := by rw [List.take_add_one, List.getElem?_eq_getElem hj]; rfl
    rw [e, List.getLast?_append]
    simp [List.getElem?_eq_getElem hj]
  rw [this]
theorem mem_rowsL (set : List Tile) (w : Nat) (c : List Nat) : c ∈ rowsL set w [] ↔ RowOK set w c := by
  rw [mem_rowsL0]
  constructor
  · rintro ⟨_, h2, h3⟩
    have hl : c.length = w := by simpa using h2
    refine ⟨hl, fun x hx => (h3 x (by simp) (by omega)).1, fun x hx => ?_⟩
    have := (h3 (x + 1) (by simp) (by omega)).2
    rw [follows_take set c x (by omega)] at this
    exact eq_of_beq this
  · rintro ⟨h1, h2, h3⟩
    refine ⟨by simp, by simp [h1], fun j _ hj => ⟨h2 j (by omega), ?_⟩⟩
    cases j with
    | zero => simp [follows]
    | succ j => rw [follows_take set c j (by omega), h3 j (by omega)]; simp
def sideN (set : List Tile) (c : List Nat) : List Int := c.map fun i => (tat set i).N
def sideS (set : List Tile) (c : List Nat) : List Int := c.map fun i => (tat set i).S
end Gp
set_option linter.unusedVariables false
set_option linter.unusedSimpArgs false
namespace Gp
open Gw Gq
/-! ### squares -/
def e0 : Edges := Edges.mk ([] : List Int) ([] : List Int) ([] : List Int) ([] : List Int)
theorem e0_sides (w h : Int) : sidesB e0 w h = true := by simp [sidesB, e0]
end Gp
set_option linter.unusedVariables false
set_option linter.unusedSimpArgs false
namespace Gp
open Gw Gq
/-! ### tori -/
end Gp
set_option linter.unusedVariables false
set_option linter.unusedSimpArgs false
namespace Gp
open Gw Gq
/-! tori and patterns -/
end Gp
set_option linter.unusedVariables false
set_option linter.unusedSimpArgs false
namespace Gp
open Gw Gq
end Gp
set_option linter.unusedVariables false
set_option linter.unusedSimpArgs false
namespace Gp
open Gw Gq
/-! ### three tiles: a torus, or no square of side four -/
/-! masks of a set -/
def hR (set : List Tile) (i j : Nat) : Bool := decide (i < set.length ∧ j < set.length ∧ (tat set i).E = (tat set j).W)
end Gp
set_option linter.unusedVariables false
set_option linter.unusedSimpArgs false
namespace Gp
open Gw Gq
/-! ### the least torus -/
/-! ### the decision -/
end Gp
set_option linter.unusedVariables false
set_option linter.unusedSimpArgs false
namespace Gp
open Gw Gq
/-! ### fillings as grids; turned and renamed sets -/
end Gp
set_option linter.unusedVariables false
set_option linter.unusedSimpArgs false
namespace Gp
open Gw Gq
/-! ### a set with one tile more -/
end Gp
set_option linter.unusedVariables false
set_option linter.unusedSimpArgs false
namespace Gp
open Gw Gq
/-! ### torus.Find -/
theorem power_l0 (b n : Nat) (hb : b ≤ 1000000) (hn : n ≤ 1000) : ∀ (d i k : Nat), i + d = n → d < k → ref02_Power.l0 k (min (b ^ i) 1000000 : Nat) i b n = some ((min (b ^ n) 1000000 : Nat) : Int)
  | 0, i, k, e, hk => by
    obtain ⟨k, rfl⟩ : ∃ m, k = m + 1 := ⟨k - 1, by omega⟩
    have : i = n := by omega
    subst this
    rw [ref02_Power.l0, if_neg (by simp)]
  | d + 1, i, k, e, hk => by
    obtain ⟨k, rfl⟩ : ∃ m, k = m + 1 := ⟨k - 1, by omega⟩
    have ih := power_l0 b n hb hn d (i + 1) k (by omega) (by omega)
    have hwi : w64 ((i : Int) + 1) = ((i + 1 : Nat) : Int) := by rw [w64_id (by omega) (by omega)]; rfl
    have hm : (min (b ^ i) 1000000) * b ≤ 1000000 * 1000000 := Nat.mul_le_mul (Nat.min_le_right _ _) hb
    have hmul : ((min (b ^ i) 1000000 : Nat) : Int) * (b : Int) = (((min (b ^ i) 1000000) * b : Nat) : Int) := (Int.natCast_mul _ _).symm
    have key : min (min (b ^ i) 1000000 * b) 1000000 = min (b ^ (i + 1)) 1000000 := by
      rw [Nat.pow_succ]
      by_cases hx : b ^ i ≤ 1000000
      · rw [Nat.min_eq_left hx]
      · rw [Nat.min_eq_right (by omega : 1000000 ≤ b ^ i)]
        have h0 : 0 < b := by
          rcases Nat.eq_zero_or_pos b with h0 | h0
          · exfalso; subst h0
            have := Nat.pow_le_pow_left (by omega : 0 ≤ 1) i
            rw [Nat.one_pow] at this; omega
          · exact h0
        have a1 : 1000000 ≤ 1000000 * b := Nat.le_mul_of_pos_right _ h0
        have a2 : b ^ i ≤ b ^ i * b := Nat.le_mul_of_pos_right _ h0
        rw [Nat.min_eq_right a1, Nat.min_eq_right (by omega)]
    obtain ⟨M, hM⟩ : ∃ M, min (b ^ i) 1000000 * b = M := ⟨_, rfl⟩
    rw [hM] at hm hmul key
    have hmin : minI (M : Int) 1000000 = ((min (b ^ (i + 1)) 1000000 : Nat) : Int) := by
      rw [← key]; unfold minI; split <;> omega
    rw [ref02_Power.l0, if_pos (by simp; omega), hmul, w64_id (n := (M : Int)) (by omega) (by omega), hmin, hwi]
    exact ih
theorem power_eq (b n : Nat) (hb : b ≤ 1000000) (hn : n ≤ 1000) {k : Nat} (hk : n < k) : ref02_Power k b n = some ((min (b ^ n) 1000000 : Nat) : Int) := by
  have := power_l0 b n hb hn n 0 k (by omega) hk
  rw [Nat.pow_zero] at this
  have this : ref02_Power.l0 k 1 0 b n = _ := this
  unfold ref02_Power
  rw [this]; rfl
theorem great_eq (s : List Tile) (hl : s.length ≤ 1000) {w : Nat} (hw : 1 ≤ w ∧ w ≤ 60) {k : Nat} (hk : 1000 < k) : ref02_Great k s w = some (!fewB s.length w) := by
  unfold ref02_Great
  rw [power_eq s.length w (by omega) (by omega) (by omega), Option.bind_some]
  congr 1
  unfold fewB
  by_cases h : (max s.length 1) ^ w ≤ 5000
  · rw [decide_eq_true h]
    have : s.length ^ w ≤ (max s.length 1) ^ w := Nat.pow_le_pow_left (by omega) w
    exact decide_eq_false (by omega)
  · rw [decide_eq_false h]
    have : s.length ^ w = (max s.length 1) ^ w := by
      rcases Nat.eq_zero_or_pos s.length with h0 | h0
      · exfalso; rw [h0] at h; exact h (by simp)
      · rw [show max s.length 1 = s.length by omega]
    exact decide_eq_true (by omega)
/-! multiples -/
theorem step6 (p : Int) (hp : (Go.Lit.int .u8 p).wf = true) : ∃ n : Nat, w64 (1 + Int.tmod (w64 p) 6) = (n : Int) ∧ 1 ≤ n ∧ n ≤ 6 := by
  simp [Go.Lit.wf, Go.IntKind.min, Go.IntKind.max, Go.IntKind.signed, Go.IntKind.bits] at hp
  obtain ⟨q, rfl⟩ : ∃ q : Nat, p = q := ⟨p.toNat, by omega⟩
  rw [w64_id (n := (q : Int)) (by omega) (by omega), show Int.tmod (q : Int) 6 = ((q % 6 : Nat) : Int) from rfl, w64_id (by omega) (by omega)]
  exact ⟨1 + q % 6, by simp, by omega, by omega⟩
end Gp
set_option linter.unusedVariables false
set_option linter.unusedSimpArgs false
namespace Gp
open Gw Gq
/-! ### a torus is no higher than there are words -/
theorem length_le_sub {α : Type} [BEq α] [LawfulBEq α] : ∀ (l m : List α), l.Nodup → (∀ x ∈ l, x ∈ m) → l.length ≤ m.length
  | [], m, _, _ => Nat.zero_le _
  | a :: l, m, hn, hs => by
    have hn2 := List.nodup_cons.1 hn
    have ha : a ∈ m := hs a (List.mem_cons_self ..)
    have := length_le_sub l (m.erase a) hn2.2 (fun x hx => (List.mem_erase_of_ne (fun e => hn2.1 (by rw [← e]; exact hx))).2 (hs x (List.mem_cons_of_mem _ hx)))
    rw [List.length_erase_of_mem ha] at this
    have h1 : 0 < m.length := List.length_pos_of_mem ha
    rw [List.length_cons]; omega
end Gp
set_option linter.unusedVariables false
set_option linter.unusedSimpArgs false
namespace Gp
open Gw Gq
/-! ### the reference's colours -/
def atS (l : List Int) (n : Int) : Int := if n ∈ l then (l.idxOf n : Int) else -1
theorem at_l0 (l : List Int) (n : Int) (hl : l.length ≤ 1000000) : ∀ (d i k : Nat), i + d = l.length → d < k → ref02_at.l0 k i l n = some (if n ∈ l.drop i then .inl (((i + (l.drop i).idxOf n : Nat)) : Int) else .inr ())
  | 0, i, k, e, hk => by
    obtain ⟨k, rfl⟩ : ∃ m, k = m + 1 := ⟨k - 1, by omega⟩
    rw [ref02_at.l0, if_neg (by simp; omega), List.drop_eq_nil_of_le (by omega)]; rfl
  | d + 1, i, k, e, hk => by
    obtain ⟨k, rfl⟩ : ∃ m, k = m + 1 := ⟨k - 1, by omega⟩
    have hlt : i < l.length := by omega
    have hwi : w64 ((i : Int) + 1) = ((i + 1 : Nat) : Int) := by rw [w64_id (by omega) (by omega)]; rfl
    rw [ref02_at.l0, if_pos (by simpa using hlt), if_pos (by omega), rdD_get hlt, hwi, at_l0 l n hl d (i + 1) k (by omega) (by omega), List.drop_eq_getElem_cons hlt]
    by_cases he : l[i] = n
    · rw [if_pos (by simpa using he), if_pos (by rw [he]; exact List.mem_cons_self ..)]
      rw [he, List.idxOf_cons_self]; rfl
    · rw [if_neg (by simpa using he)]
      have hm : n ∈ l[i] :: l.drop (i + 1) ↔ n ∈ l.drop (i + 1) := by
        rw [List.mem_cons]
        exact ⟨fun h => h.resolve_left (fun e => he e.symm), .inr⟩
      by_cases hd : n ∈ l.drop (i + 1)
      · rw [if_pos hd, if_pos (hm.2 hd), List.idxOf_cons, show (l[i] == n) = false by simpa using he]
        simp only [cond_false]
        congr 2; omega
      · rw [if_neg hd, if_neg (fun h => hd (hm.1 h))]
theorem at_eq (l : List Int) (n : Int) (hl : l.length ≤ 1000000) {k : Nat} (hk : l.length < k) : ref02_at k l n = some (atS l n) := by
  have := at_l0 l n hl l.length 0 k (by omega) hk
  have this : ref02_at.l0 k 0 l n = _ := this
  unfold ref02_at atS
  rw [this, List.drop_zero]
  by_cases h : n ∈ l
  · rw [if_pos h, if_pos h]; simp [sumb]
  · rw [if_neg h, if_neg h]; rfl
def withS (l : List Int) (n : Int) : List Int := if n ∈ l then l else l ++ [n]
theorem with_eq (l : List Int) (n : Int) (hl : l.length ≤ 1000000) {k : Nat} (hk : l.length < k) : ref02_with k l n = some (withS l n) := by
  unfold ref02_with withS
  rw [at_eq l n hl hk, Option.bind_some]
  unfold atS
  by_cases h : n ∈ l
  · rw [if_pos h, if_neg (by simp), if_pos h]; rfl
  · rw [if_neg h, if_pos (by decide), if_pos (by simp; omega), if_neg h]; rfl
theorem withS_len (l : List Int) (n : Int) : (withS l n).length ≤ l.length + 1 := by unfold withS; split <;> simp
theorem mem_withS (l : List Int) (n x : Int) : x ∈ withS l n ↔ x ∈ l ∨ x = n := by
  unfold withS
  split
  · rename_i h; exact ⟨.inl, fun e => e.elim id (fun e => e ▸ h)⟩
  · simp
theorem withS_nodup {l : List Int} (n : Int) (h : l.Nodup) : (withS l n).Nodup := by
  unfold withS
  split
  · exact h
  · rename_i hn
    rw [List.nodup_append]
    exact ⟨h, List.nodup_cons.2 ⟨by simp, List.nodup_nil⟩, fun a ha b hb => by
      rw [List.mem_singleton] at hb; intro e; exact hn (by rw [← hb, ← e]; exact ha)⟩
def colS2 (l : List Int) (t : Tile) : List Int := withS (withS l t.N) t.S
def colsS (s : List Tile) : List Int := s.foldl colS2 []
theorem colours_eq (s : List Tile) (hl : s.length ≤ 2000) {k : Nat} (hk : 10000 < k) : ref02_Colours k s = some (colsS s) := by
  have := loop_list (F := fun k i (l : List Int) => ref02_Colours.l0 k l i s) s colS2 5000 (fun i l => l.length ≤ 2 * i) id (fun k i l h hk hP => by
    have hwi : w64 ((i : Int) + 1) = ((i + 1 : Nat) : Int) := by rw [w64_id (by omega) (by omega)]; rfl
    have h1 := withS_len l s[i].N
    have h2 := withS_len (withS l s[i].N) s[i].S
    constructor
    · show ref02_Colours.l0 (k + 1) l i s = _
      rw [ref02_Colours.l0, if_pos (by simpa using h), if_pos (by omega), rdD_get h, with_eq l _ (by omega) (by omega), Option.bind_some, with_eq _ _ (by omega) (by omega), Option.bind_some, hwi]; rfl
    · unfold colS2; omega) (fun k l _ => by
    show ref02_Colours.l0 (k + 1) l s.length s = _
    rw [ref02_Colours.l0, if_neg (by simp)]; rfl) [] (by simp) k (by omega)
  have this : ref02_Colours.l0 k [] 0 s = _ := this
  unfold ref02_Colours
  rw [this]; rfl
theorem colsS_spec (s : List Tile) : (colsS s).Nodup ∧ (colsS s).length ≤ 2 * s.length ∧ ∀ c, c ∈ colsS s ↔ ∃ t ∈ s, c = t.N ∨ c = t.S := by
  have key : ∀ (r : List Tile) (l : List Int), l.Nodup → (r.foldl colS2 l).Nodup ∧ (r.foldl colS2 l).length ≤ l.length + 2 * r.length ∧ ∀ c, c ∈ r.foldl colS2 l ↔ c ∈ l ∨ ∃ t ∈ r, c = t.N ∨ c = t.S := by
    intro r
    induction r with
    | nil => intro l h; exact ⟨h, by simp, fun c => by simp⟩
    | cons t r ih =>
      intro l h
      obtain ⟨a, b, c⟩ := ih (colS2 l t) (withS_nodup _ (withS_nodup _ h))
      have h1 := withS_len l t.N
      have h2 := withS_len (withS l t.N) t.S
      refine ⟨a, ?_, fun x => ?_⟩
      · rw [List.foldl_cons, List.length_cons]; unfold colS2 at b ⊢; omega
      · rw [List.foldl_cons, c x]
        unfold colS2
        rw [mem_withS, mem_withS]
        simp only [List.mem_cons, exists_eq_or_imp]
        constructor
        · rintro (((h | h) | h) | h)
          · exact .inl h
          · exact .inr (.inl (.inl h))
          · exact .inr (.inl (.inr h))
          · exact .inr (.inr h)
        · rintro (h | (h | h) | h)
          · exact .inl (.inl (.inl h))
          · exact .inl (.inl (.inr h))
          · exact .inl (.inr h)
          · exact .inr h
  obtain ⟨a, b, c⟩ := key s [] List.nodup_nil
  exact ⟨a, by simpa [colsS] using b, fun x => by rw [colsS, c x]; simp⟩
theorem light_some (s : List Tile) (hl : s.length ≤ 1000) {w : Nat} (hw : w ≤ 1000) {k : Nat} (hk : 10000 < k) : ref02_Light k s w = some (decide (min ((colsS s).length ^ w) 1000000 ≤ 1500) && decide (min (s.length ^ w) 1000000 ≤ 40000)) := by
  obtain ⟨_, hc, _⟩ := colsS_spec s
  unfold ref02_Light
  rw [colours_eq s (by omega) hk, Option.bind_some, power_eq (colsS s).length w (by omega) hw (by omega), Option.bind_some]
  have d1 : ∀ a b : Nat, decide (((a : Nat) : Int) ≤ ((b : Nat) : Int)) = decide (a ≤ b) := fun a b => by
    by_cases h : a ≤ b
    · rw [decide_eq_true h, decide_eq_true (by omega)]
    · rw [decide_eq_false h, decide_eq_false (by omega)]
  have e1 := d1 (min ((colsS s).length ^ w) 1000000) 1500
  have e2 := d1 (min (s.length ^ w) 1000000) 40000
  have e1' : decide (((min ((colsS s).length ^ w) 1000000 : Nat) : Int) ≤ 1500) = decide (min ((colsS s).length ^ w) 1000000 ≤ 1500) := e1
  have e2' : decide (((min (s.length ^ w) 1000000 : Nat) : Int) ≤ 40000) = decide (min (s.length ^ w) 1000000 ≤ 40000) := e2
  rw [e1']
  cases h : decide (min ((colsS s).length ^ w) 1000000 ≤ 1500)
  · rfl
  · rw [if_pos rfl, power_eq s.length w (by omega) hw (by omega), Option.bind_some, e2']; rfl
/-! ### squares fall -/
end Gp
set_option linter.unusedVariables false
set_option linter.unusedSimpArgs false
namespace Gp
open Gw Gq
/-! ### the reference's rows -/
end Gp
set_option linter.unusedVariables false
set_option linter.unusedSimpArgs false
namespace Gp
open Gw Gq
/-! ### the reference's tori -/
end Gp
set_option linter.unusedVariables false
set_option linter.unusedSimpArgs false
namespace Gp
open Gw Gq
/-! program and reference -/
structure SetC (s : List Tile) (C : List Int) (w : Nat) (B : List (List Nat)) : Prop where
  w8 : w ≤ 8
  col : ∀ i, i < s.length → (tat s i).S ∈ C ∧ (tat s i).N ∈ C
  row : ∀ c ∈ B, RowOK s w c
theorem SetC.mem {s : List Tile} {C : List Int} {w : Nat} {B : List (List Nat)} (h : SetC s C w B) {c : List Nat} (hc : c ∈ B) : (sideS s c).length = w ∧ (sideN s c).length = w ∧ (∀ y ∈ sideS s c, y ∈ C) ∧ (∀ y ∈ sideN s c, y ∈ C) := by
  have hr := h.row c hc
  have hcl : ∀ i ∈ c, i < s.length := fun i hi => by
    obtain ⟨j, hj, rfl⟩ := List.getElem_of_mem hi
    have := hr.lt j (by rw [← hr.len]; exact hj)
    rwa [List.getD_eq_getElem?_getD, List.getElem?_eq_getElem hj, Option.getD_some] at this
  exact ⟨by simp [sideS, hr.len], by simp [sideN, hr.len], fun y hy => by unfold sideS at hy; obtain ⟨i, hi, rfl⟩ := List.mem_map.1 hy; exact (h.col i (hcl i hi)).1, fun y hy => by unfold sideN at hy; obtain ⟨i, hi, rfl⟩ := List.mem_map.1 hy; exact (h.col i (hcl i hi)).2⟩
end Gp
set_option linter.unusedVariables false
set_option linter.unusedSimpArgs false
namespace Gp
open Gw Gq
/-! ### the reference's least torus -/
end Gp
set_option linter.unusedVariables false
set_option linter.unusedSimpArgs false
namespace Gp
open Gw Gq
/-! ### the reference's first filling -/
end Gp
set_option linter.unusedVariables false
set_option linter.unusedSimpArgs false
namespace Gp
open Gw Gq
def fitC (s : List Tile) (w h : Nat) (e : Edges) (c : List Nat) (y : Nat) : Bool := alB e w h (mkR s c) y
end Gp
set_option linter.unusedVariables false
set_option linter.unusedSimpArgs false
namespace Gp
open Gw Gq
theorem edge_of {e : Edges} {w h : Nat} (he : sidesB e w h = true) : EdgeOK e w h := by
  unfold sidesB at he
  simp only [Bool.and_eq_true, Bool.or_eq_true, decide_eq_true_eq] at he
  exact ⟨he.1.1.1.imp id (fun h => by omega), he.1.1.2.imp id (fun h => by omega), he.1.2.imp id (fun h => by omega), he.2.imp id (fun h => by omega)⟩
end Gp
set_option linter.unusedVariables false
set_option linter.unusedSimpArgs false
namespace Gp
open Gw Gq
end Gp
set_option linter.unusedVariables false
set_option linter.unusedSimpArgs false
namespace Gp
open Gw Gq
/-! ### the first filling of a rectangle -/
end Gp
set_option linter.unusedVariables false
set_option linter.unusedSimpArgs false
namespace Gq
open Gw
/-! ### sums, and the numbers of ways up and down -/
def sm {α : Type} (l : List α) (f : α → Nat) : Nat := (l.map f).sum
theorem sm_nil {α : Type} (f : α → Nat) : sm [] f = 0 := rfl
theorem sm_cons {α : Type} (a : α) (l : List α) (f : α → Nat) : sm (a :: l) f = f a + sm l f := by simp [sm]
theorem sm_congr {α : Type} {l : List α} {f g : α → Nat} (h : ∀ x ∈ l, f x = g x) : sm l f = sm l g := by
  unfold sm; rw [List.map_congr_left h]
theorem sm_map {α β : Type} (g : α → β) (f : β → Nat) (l : List α) : sm (l.map g) f = sm l fun x => f (g x) := by
  simp [sm, List.map_map, Function.comp_def]
theorem sm_zero {α : Type} (l : List α) : sm l (fun _ => 0) = 0 := by
  induction l with
  | nil => rfl
  | cons a l ih => rw [sm_cons, ih]
theorem sm_add {α : Type} (l : List α) (f g : α → Nat) : sm l (fun x => f x + g x) = sm l f + sm l g := by
  induction l with
  | nil => rfl
  | cons a l ih => rw [sm_cons, sm_cons, sm_cons, ih]; omega
theorem sm_mul {α : Type} (l : List α) (f : α → Nat) (c : Nat) : sm l (fun x => c * f x) = c * sm l f := by
  induction l with
  | nil => rfl
  | cons a l ih => rw [sm_cons, sm_cons, ih, Nat.mul_add]
theorem sm_swap {α β : Type} (a : List α) (b : List β) (f : α → β → Nat) : sm a (fun x => sm b fun y => f x y) = sm b fun y => sm a fun x => f x y := by
  induction a with
  | nil => rw [sm_nil]; exact (sm_zero b).symm
  | cons x a ih =>
    rw [sm_cons, ih, ← sm_add]
    exact sm_congr fun y _ => (sm_cons x a fun x => f x y).symm
theorem sm_le {α : Type} {l : List α} {f g : α → Nat} (h : ∀ x ∈ l, f x ≤ g x) : sm l f ≤ sm l g := by
  induction l with
  | nil => exact Nat.le_refl _
  | cons a l ih =>
    rw [sm_cons, sm_cons]
    have := h a (List.mem_cons_self ..)
    have := ih fun x hx => h x (List.mem_cons_of_mem _ hx)
    omega
def upC {α κ : Type} [DecidableEq κ] (B : List α) (S N : α → κ) (ft : α → Nat → Bool) (h : Nat) : Nat → κ → Nat
  | 0, _ => 1
  | n + 1, x => sm B fun c => if (decide (S c = x) && ft c (h - 1 - n)) = true then upC B S N ft h n (N c) else 0
def dnC {α κ : Type} [DecidableEq κ] (B : List α) (S N : α → κ) (ft : α → Nat → Bool) : Nat → κ → Nat
  | 0, _ => 1
  | y + 1, x => sm B fun c => if (decide (N c = x) && ft c y) = true then dnC B S N ft y (S c) else 0
def midC {α κ : Type} [DecidableEq κ] (B : List α) (S N : α → κ) (ft : α → Nat → Bool) (h y : Nat) : Nat := sm B fun c => if ft c y = true then dnC B S N ft y (S c) * upC B S N ft h (h - 1 - y) (N c) else 0
theorem mid_succ {α κ : Type} [DecidableEq κ] (B : List α) (S N : α → κ) (ft : α → Nat → Bool) {h y : Nat} (hy : y + 1 < h) : midC B S N ft h (y + 1) = midC B S N ft h y := by
  obtain ⟨m, hm⟩ : ∃ m, h - 1 - (y + 1) = m := ⟨_, rfl⟩
  have e1 : h - 1 - y = m + 1 := by omega
  have e2 : h - 1 - m = y + 1 := by omega
  unfold midC
  rw [hm, e1]
  have l : ∀ c, (if ft c (y + 1) = true then dnC B S N ft (y + 1) (S c) * upC B S N ft h m (N c) else 0) = sm B fun q => if (ft q y && (ft c (y + 1) && decide (S c = N q))) = true then dnC B S N ft y (S q) * upC B S N ft h m (N c) else 0 := fun c => by
    cases ft c (y + 1)
    · rw [if_neg (by decide)]
      rw [sm_congr (g := fun _ => 0) (fun q _ => if_neg (by simp)), sm_zero]
    · rw [if_pos rfl, dnC, Nat.mul_comm, ← sm_mul]
      refine sm_congr fun q _ => ?_
      by_cases he : S c = N q
      · have : N q = S c := he.symm
        cases ft q y <;> simp [he, Nat.mul_comm]
      · have : ¬ N q = S c := fun e => he e.symm
        cases ft q y <;> simp [he, this]
  have r : ∀ q, (if ft q y = true then dnC B S N ft y (S q) * upC B S N ft h (m + 1) (N q) else 0) = sm B fun c => if (ft q y && (ft c (y + 1) && decide (S c = N q))) = true then dnC B S N ft y (S q) * upC B S N ft h m (N c) else 0 := fun q => by
    cases ft q y
    · rw [if_neg (by decide)]
      rw [sm_congr (g := fun _ => 0) (fun q _ => if_neg (by simp)), sm_zero]
    · rw [if_pos rfl, upC, ← sm_mul, e2]
      refine sm_congr fun c _ => ?_
      by_cases he : S c = N q
      · cases ft c (y + 1) <;> simp [he]
      · cases ft c (y + 1) <;> simp [he]
  rw [sm_congr (fun c _ => l c), sm_congr (fun q _ => r q), sm_swap]
theorem mid_const {α κ : Type} [DecidableEq κ] (B : List α) (S N : α → κ) (ft : α → Nat → Bool) {h : Nat} : ∀ y, y < h → midC B S N ft h y = midC B S N ft h 0
  | 0, _ => rfl
  | y + 1, hy => by rw [mid_succ B S N ft hy, mid_const B S N ft y (by omega)]
theorem dnC_map {α β κ : Type} [DecidableEq κ] (g : α → β) (B : List α) (S N : β → κ) (ft : β → Nat → Bool) : ∀ (y : Nat) (x : κ), dnC (B.map g) S N ft y x = dnC B (fun c => S (g c)) (fun c => N (g c)) (fun c => ft (g c)) y x
  | 0, x => rfl
  | y + 1, x => by
    rw [dnC, dnC, sm_map]
    exact sm_congr fun c _ => by rw [dnC_map g B S N ft y]
theorem dnC_key {α κ μ : Type} [DecidableEq κ] [DecidableEq μ] (B : List α) (S N : α → κ) (S' N' : α → μ) (ft : α → Nat → Bool) (hk : ∀ c ∈ B, ∀ d ∈ B, S c = N d ↔ S' c = N' d) : ∀ (y : Nat) (d : α), d ∈ B → dnC B S N ft y (S d) = dnC B S' N' ft y (S' d)
  | 0, d, _ => rfl
  | y + 1, d, hd => by
    rw [dnC, dnC]
    refine sm_congr fun c hc => ?_
    rw [dnC_key B S N S' N' ft hk y c hc]
    have : decide (N c = S d) = decide (N' c = S' d) := by
      rw [Bool.eq_iff_iff, decide_eq_true_eq, decide_eq_true_eq]
      exact ⟨fun e => ((hk d hd c hc).1 e.symm).symm, fun e => ((hk d hd c hc).2 e.symm).symm⟩
    rw [this]
theorem tot_up {α κ : Type} [DecidableEq κ] (B : List α) (S N : α → κ) (ft : α → Nat → Bool) {h : Nat} (hh : 1 ≤ h) : midC B S N ft h 0 = sm B fun c => if ft c 0 = true then upC B S N ft h (h - 1) (N c) else 0 := by
  unfold midC
  exact sm_congr fun c _ => by rw [dnC, Nat.one_mul, Nat.sub_zero]
theorem tot_dn {α κ : Type} [DecidableEq κ] (B : List α) (S N : α → κ) (ft : α → Nat → Bool) {h : Nat} (hh : 1 ≤ h) : midC B S N ft h 0 = sm B fun c => if ft c (h - 1) = true then dnC B S N ft (h - 1) (S c) else 0 := by
  rw [← mid_const B S N ft (h - 1) (by omega)]
  unfold midC
  exact sm_congr fun c _ => by rw [show h - 1 - (h - 1) = 0 by omega, upC, Nat.mul_one]
/-! ### numbers that stay below a bound -/
def sat (v : Nat) : Nat := min v 1152921504606846977
theorem sat_le (v : Nat) : sat v ≤ 1152921504606846977 := Nat.min_le_right ..
theorem sat_add (a b : Nat) : minI (w64 ((sat a : Int) + (sat b : Int))) 1152921504606846977 = ((sat (a + b) : Nat) : Int) := by
  have h1 := sat_le a
  have h2 := sat_le b
  rw [w64_id (by omega) (by omega)]
  unfold minI sat
  split <;> omega
theorem sat_pos (a : Nat) : 0 < sat a ↔ 0 < a := by unfold sat; omega
def sumV {κ : Type} (m : List (κ × Nat)) : Nat := sm m Prod.snd
def satM {κ : Type} (m : List (κ × Nat)) : List (κ × Int) := m.map fun p => (p.1, ((sat p.2 : Nat) : Int))
theorem satM_get {κ : Type} [DecidableEq κ] (x : κ) : ∀ m : List (κ × Nat), mget x 0 (satM m) = ((sat (mget x 0 m) : Nat) : Int)
  | [] => rfl
  | p :: r => by
    show (if x = p.1 then ((sat p.2 : Nat) : Int) else mget x 0 (satM r)) = _
    rw [mget]
    by_cases h : x = p.1
    · rw [if_pos h, if_pos h]
    · rw [if_neg h, if_neg h, satM_get x r]
theorem satM_put {κ : Type} [DecidableEq κ] (x : κ) (v : Nat) : ∀ m : List (κ × Nat), mput x ((sat v : Nat) : Int) (satM m) = satM (mput x v m)
  | [] => rfl
  | p :: r => by
    show (if x = p.1 then (x, ((sat v : Nat) : Int)) :: satM r else (p.1, ((sat p.2 : Nat) : Int)) :: mput x ((sat v : Nat) : Int) (satM r)) = _
    rw [mput]
    by_cases h : x = p.1
    · rw [if_pos h, if_pos h]; rfl
    · rw [if_neg h, if_neg h, satM_put x v r]; rfl
theorem sumV_put {κ : Type} [DecidableEq κ] (x : κ) (v : Nat) : ∀ m : List (κ × Nat), sumV (mput x (mget x 0 m + v) m) = sumV m + v
  | [] => by simp [mput, mget, sumV, sm]
  | p :: r => by
    rw [mput, mget]
    by_cases h : x = p.1
    · rw [if_pos h, if_pos h]
      simp only [sumV, sm_cons]; omega
    · rw [if_neg h, if_neg h]
      have := sumV_put x v r
      simp only [sumV, sm_cons] at this ⊢; omega
def addM {α κ : Type} [DecidableEq κ] (key : α → κ) (v : α → Nat) (q : α → Bool) (m : List (κ × Nat)) (a : α) : List (κ × Nat) := if (decide (0 < v a) && q a) = true then mput (key a) (mget (key a) 0 m + v a) m else m
theorem addM_get {α κ : Type} [DecidableEq κ] (key : α → κ) (v : α → Nat) (q : α → Bool) (x : κ) : ∀ (l : List α) (m : List (κ × Nat)), mget x 0 (l.foldl (addM key v q) m) = mget x 0 m + sm l fun a => if (decide (key a = x) && q a) = true then v a else 0
  | [], m => rfl
  | a :: l, m => by
    rw [List.foldl_cons, addM_get key v q x l, sm_cons]
    unfold addM
    by_cases hv : 0 < v a
    · cases q a
      · simp
      · simp only [hv, decide_true, Bool.and_true, if_true, Gq.mget_mput]
        by_cases hx : x = key a
        · subst hx; simp; omega
        · have : ¬ key a = x := fun e => hx e.symm
          simp [hx, this]
    · have h0 : v a = 0 := by omega
      simp [h0]
theorem addM_sum {α κ : Type} [DecidableEq κ] (key : α → κ) (v : α → Nat) (q : α → Bool) : ∀ (l : List α) (m : List (κ × Nat)), sumV (l.foldl (addM key v q) m) = sumV m + sm l fun a => if q a = true then v a else 0
  | [], m => rfl
  | a :: l, m => by
    rw [List.foldl_cons, addM_sum key v q l, sm_cons]
    unfold addM
    by_cases hv : 0 < v a
    · cases q a
      · simp
      · simp only [hv, decide_true, Bool.and_true, if_true, sumV_put]; omega
    · have h0 : v a = 0 := by omega
      simp [h0]
theorem foldM_sat {κ : Type} (f : Int → Int → Option Int) (hf : ∀ x v, f x v = some (minI (w64 (x + v)) 1152921504606846977)) : ∀ (m : List (κ × Nat)) (a : Nat), ((satM m).map Prod.snd).foldlM f ((sat a : Nat) : Int) = some ((sat (a + sumV m) : Nat) : Int)
  | [], a => rfl
  | p :: r, a => by
    show ((f ((sat a : Nat) : Int) ((sat p.2 : Nat) : Int)).bind fun b => ((satM r).map Prod.snd).foldlM f b) = _
    rw [hf, sat_add, Option.bind_some, foldM_sat f hf r, Nat.add_assoc]
    rfl
theorem mapfold_sat {κ : Type} (f : Int → Int → Option Int) (hf : ∀ x v, f x v = some (minI (w64 (x + v)) 1152921504606846977)) (m : List (κ × Nat)) : mapfold (satC 1152921504606846977) f 0 ((satM m).map Prod.snd) = some ((sat (sumV m) : Nat) : Int) := by
  unfold mapfold
  have : satC 1152921504606846977 0 ((satM m).map Prod.snd) = true := by
    unfold satC
    rw [Bool.and_eq_true]
    refine ⟨by decide, ?_⟩
    rw [List.all_eq_true]
    intro v hv
    obtain ⟨p, hp, rfl⟩ := List.mem_map.1 hv
    obtain ⟨q, hq, rfl⟩ := List.mem_map.1 hp
    have := sat_le q.2
    exact decide_eq_true (by show (0 : Int) ≤ ((sat q.2 : Nat) : Int) ∧ ((sat q.2 : Nat) : Int) ≤ _; omega)
  rw [if_pos this]
  have := foldM_sat f hf m 0
  rw [Nat.zero_add] at this
  exact this
end Gq
set_option linter.unusedVariables false
set_option linter.unusedSimpArgs false
namespace Gp
open Gw Gq
/-! ### the program's count -/
theorem mod_pos (x : Int) (n : Nat) (hx : x = ((sat n : Nat) : Int)) : decide (x > 0) = decide (0 < n) := by
  have := sat_pos n
  rw [hx, Bool.eq_iff_iff, decide_eq_true_eq, decide_eq_true_eq]; omega
theorem count_l2 {e : Edges} {w h : Nat} (he : EdgeOK e w h) (hw : w ≤ 8) (hh : h ≤ 1000) (R : List Row) (hR : R.length ≤ 1000000) {y : Nat} (hy : y < h) (E : List (A8_Int × Nat)) (hE : 0 < y → ∀ x, mget x 0 E = dnC R Row.South Row.North (alB e w h) y x) {k : Nat} (hk : R.length + w + 1 < k) :
    fill_Count.l2 k [] 0 e ⟨R, w, h, e⟩ (satM E) (y : Int) = some (satM (R.foldl (addM Row.North (fun r => dnC R Row.South Row.North (alB e w h) y r.South) (fun r => alB e w h r y)) [])) := by
  have hl := loop_list (F := fun k i (m : List (A8_Int × Nat)) => fill_Count.l2 k (satM m) i e ⟨R, w, h, e⟩ (satM E) (y : Int)) R (addM Row.North (fun r => dnC R Row.South Row.North (alB e w h) y r.South) (fun r => alB e w h r y)) (w + 1) (fun _ _ => True) satM (fun k i m hi hk _ => by
    refine ⟨?_, trivial⟩
    show fill_Count.l2 (k + 1) (satM m) i e ⟨R, w, h, e⟩ (satM E) (y : Int) = _
    have hwi : w64 ((i : Int) + 1) = ((i + 1 : Nat) : Int) := by rw [w64_id (by omega) (by omega)]; rfl
    have hal : ∀ r, fill_job_allows k (Job.mk R w h e) r (y : Int) = some (alB e w h r y) := fun r => allows_eq he hw hh R r hy (by omega)
    rw [fill_Count.l2, if_pos (by simpa using hi), if_pos (by simp; omega)]
    simp only [hal, rdD_get hi, hwi, Option.bind_some]
    have hn : (if decide ((y : Int) > 0) = true then some (mget R[i].South 0 (satM E)) else some 1) = some ((sat (dnC R Row.South Row.North (alB e w h) y R[i].South) : Nat) : Int) := by
      by_cases h0 : 0 < y
      · rw [if_pos (by simpa using h0), satM_get, hE h0]
      · have : y = 0 := by omega
        subst this
        rw [if_neg (by decide)]; rfl
    rw [hn, Option.bind_some, mod_pos _ _ rfl]
    unfold addM
    cases hd : decide (0 < dnC R Row.South Row.North (alB e w h) y R[i].South)
    · simp
    · cases ha : alB e w h R[i] y
      · simp [ha]
      · rw [if_pos rfl, Option.bind_some, if_pos rfl]
        unfold fill_Count_1
        rw [satM_get, sat_add, Option.bind_some, satM_put, Option.bind_some]
        simp [ha]) (fun k m _ => by
    show fill_Count.l2 (k + 1) (satM m) R.length e ⟨R, w, h, e⟩ (satM E) (y : Int) = _
    rw [fill_Count.l2, if_neg (by simp)]) [] trivial k (by omega)
  exact hl
theorem count_l1 {e : Edges} {w h : Nat} (he : EdgeOK e w h) (hw : w ≤ 8) (hh : h ≤ 1000) (R : List Row) (hR : R.length ≤ 1000000) : ∀ (d y : Nat) (E : List (A8_Int × Nat)) (k : Nat), y + d = h → (0 < y → (∀ x, mget x 0 E = dnC R Row.South Row.North (alB e w h) y x) ∧ sumV E = sm R fun r => if alB e w h r (y - 1) = true then dnC R Row.South Row.North (alB e w h) (y - 1) r.South else 0) → R.length + w + d + 3 < k →
    ∃ E', fill_Count.l1 k (satM E) (y : Int) (h : Int) e ⟨R, w, h, e⟩ = some (satM E') ∧ (0 < h → (∀ x, mget x 0 E' = dnC R Row.South Row.North (alB e w h) h x) ∧ sumV E' = sm R fun r => if alB e w h r (h - 1) = true then dnC R Row.South Row.North (alB e w h) (h - 1) r.South else 0)
  | 0, y, E, k, hd, hE, hk => by
    obtain ⟨k, rfl⟩ : ∃ m, k = m + 1 := ⟨k - 1, by omega⟩
    have : y = h := by omega
    subst this
    exact ⟨E, by rw [fill_Count.l1, if_neg (by simp)], hE⟩
  | d + 1, y, E, k, hd, hE, hk => by
    obtain ⟨k, rfl⟩ : ∃ m, k = m + 1 := ⟨k - 1, by omega⟩
    have hwy : w64 ((y : Int) + 1) = ((y + 1 : Nat) : Int) := by rw [w64_id (by omega) (by omega)]; rfl
    rw [fill_Count.l1, if_pos (by simp; omega), count_l2 he hw hh R hR (by omega) E (fun h0 => (hE h0).1) (by omega), Option.bind_some, hwy]
    refine count_l1 he hw hh R hR d (y + 1) _ k (by omega) (fun _ => ⟨fun x => ?_, ?_⟩) (by omega)
    · rw [addM_get, dnC]
      show 0 + _ = _
      rw [Nat.zero_add]
    · rw [addM_sum]
      show 0 + _ = _
      rw [Nat.zero_add]; rfl
def waysN (s : List Tile) (w h : Nat) (e : Edges) : Nat := midC (rowsL s w []) (sideS s) (sideN s) (fitC s w h e) h 0
theorem allR_C (s : List Tile) (w : Nat) : allR s w = (rowsL s w []).map (mkR s) := rfl
theorem ways_dn {s : List Tile} {w h : Nat} (e : Edges) (hw : 1 ≤ w ∧ w ≤ 8) (hh : 1 ≤ h) : (sm (allR s w) fun r => if alB e w h r (h - 1) = true then dnC (allR s w) Row.South Row.North (alB e w h) (h - 1) r.South else 0) = waysN s w h e := by
  unfold waysN
  rw [tot_dn _ _ _ _ hh, allR_C, sm_map]
  refine sm_congr fun c hc => ?_
  have hB : ∀ c ∈ rowsL s w [], RowOK s w c := fun c hc => (mem_rowsL s w c).1 hc
  rw [dnC_map]
  have hk : ∀ c ∈ rowsL s w [], ∀ d ∈ rowsL s w [], (mkR s c).South = (mkR s d).North ↔ sideS s c = sideN s d := fun c hc d hd => by
    show wordOf (sideS s c) = wordOf (sideN s d) ↔ _
    have l1 := (hB c hc).len
    have l2 := (hB d hd).len
    refine ⟨fun e => (wordOf_inj ?_ ?_).1 e, fun e => by rw [e]⟩ <;> simp [sideS, sideN] <;> omega
  rw [dnC_key (rowsL s w []) (fun c => (mkR s c).South) (fun c => (mkR s c).North) (sideS s) (sideN s) _ hk (h - 1) c hc]
  rfl
def countX (s : List Tile) (w h : Nat) (e : Edges) : Int × Int := if waysN s w h e ≤ 1152921504606846976 then (((waysN s w h e : Nat) : Int), 0) else (0, 4)
theorem count_ok (set : List Tile) (w h : Nat) (e : Edges) (hv : validT set = true) (hw : 1 ≤ w ∧ w ≤ 8) (hh : 1 ≤ h ∧ h ≤ 60) (he : sidesB e w h = true) (hf : fewB set.length w = true) {k : Nat} (hk : 10000 < k) : fill_Count k set w h e = some (countX set w h e) := by
  have hl := valid_len hv
  have hp := max_pow hf
  have hRl := allR_len set w
  have heo : EdgeOK e w h := edge_of he
  obtain ⟨j, rfl⟩ : ∃ j, k = j + 5 := ⟨k - 5, by omega⟩
  unfold fill_Count fill_begin
  rw [tile_valid set (by omega) (by omega), hv, Option.bind_some, if_neg (by simp), if_neg (by simp; omega), begin_l0, he, few_eq set w (by omega) (by omega) (by omega), hf, all_eq set w hw.1 hw.2 (by omega) (by omega) (by omega)]
  simp only [if_true, Option.bind_some, sumb, Bool.not_true, Bool.false_eq_true, if_false, optM, bne_self_eq_false]
  obtain ⟨E', e1, e2⟩ := count_l1 heo hw.2 (by omega) (allR set w) (by omega) h 0 [] (j + 5) (by omega) (fun h0 => by omega) (by omega)
  have e1 : fill_Count.l1 (j + 5) ([] : List (A8_Int × Int)) 0 (h : Int) e ⟨allR set w, w, h, e⟩ = some (satM E') := e1
  rw [e1, Option.bind_some, mapfold_sat _ (fun x v => by unfold fill_Count_1; rfl), Option.bind_some, (e2 (by omega)).2, ways_dn e hw hh.1]
  unfold countX sat
  by_cases hs : waysN set w h e ≤ 1152921504606846976
  · rw [if_pos hs, if_neg (by simp; omega), Nat.min_eq_left (by omega)]
  · rw [if_neg hs, if_pos (by simp; omega)]
/-! ### the reference's count -/
end Gp
set_option linter.unusedVariables false
set_option linter.unusedSimpArgs false
namespace Gp
open Gw Gq
/-! ### there is a filling exactly if there are ways -/
theorem mk_sides {s : List Tile} {w : Nat} {c : List Nat} (hc : RowOK s w c) (hw : 1 ≤ w ∧ w ≤ 8) : (mkR s c).West = (tat s (c.getD 0 0)).W ∧ (mkR s c).East = (tat s (c.getD (w - 1) 0)).E ∧ ∀ x, x < w → (mkR s c).South.get x = (tat s (c.getD x 0)).S ∧ (mkR s c).North.get x = (tat s (c.getD x 0)).N := by
  refine ⟨?_, ?_, fun x hx => ⟨?_, ?_⟩⟩
  · show (tat s (c.headD 0)).W = _
    congr 2
    cases c <;> simp
  · show (tat s (c.getLastD 0)).E = _
    congr 2
    rw [List.getLastD_eq_getLast?, List.getLast?_eq_getElem?, hc.len, List.getD_eq_getElem?_getD]
  · show (wordOf (c.map fun i => (tat s i).S)).get x = _
    rw [wordOf_get _ x (by omega)]
    simp [List.getElem?_eq_getElem (show x < c.length by rw [hc.len]; exact hx)]
  · show (wordOf (c.map fun i => (tat s i).N)).get x = _
    rw [wordOf_get _ x (by omega)]
    simp [List.getElem?_eq_getElem (show x < c.length by rw [hc.len]; exact hx)]
theorem al_iff {s : List Tile} {w h : Nat} {e : Edges} {c : List Nat} (hc : RowOK s w c) (hw : 1 ≤ w ∧ w ≤ 8) (y : Nat) : alB e w h (mkR s c) y = true ↔ atB e.West y (tat s (c.getD 0 0)).W = true ∧ atB e.East y (tat s (c.getD (w - 1) 0)).E = true ∧ (y = 0 → ∀ x, x < w → atB e.South x (tat s (c.getD x 0)).S = true) ∧ (y + 1 = h → ∀ x, x < w → atB e.North x (tat s (c.getD x 0)).N = true) := by
  obtain ⟨h1, h2, h3⟩ := mk_sides hc hw
  unfold alB
  rw [h1, h2, Bool.and_eq_true, Bool.and_eq_true, List.all_eq_true, and_assoc]
  refine and_congr Iff.rfl (and_congr Iff.rfl ?_)
  simp only [List.mem_range]
  have h4 : ∀ x, x < w → (colE e h (mkR s c) y x = true ↔ (y = 0 → atB e.South x (tat s (c.getD x 0)).S = true) ∧ (y + 1 = h → atB e.North x (tat s (c.getD x 0)).N = true)) := fun x hx => by
    unfold colE
    rw [(h3 x hx).1, (h3 x hx).2, Bool.and_eq_true, Bool.or_eq_true, Bool.or_eq_true, Bool.not_eq_true', Bool.not_eq_true', decide_eq_false_iff_not, decide_eq_false_iff_not]
    exact and_congr Decidable.imp_iff_not_or.symm ⟨fun h h1 => h.resolve_left (fun n => n h1), fun h => Decidable.imp_iff_not_or.1 h⟩
  constructor
  · intro h
    exact ⟨fun h0 x hx => ((h4 x hx).1 (h x hx)).1 h0, fun h0 x hx => ((h4 x hx).1 (h x hx)).2 h0⟩
  · intro h x hx
    exact (h4 x hx).2 ⟨fun h0 => h.1 h0 x hx, fun h0 => h.2 h0 x hx⟩
end Gp
set_option linter.unusedVariables false
set_option linter.unusedSimpArgs false
namespace Gq
open Gw
/-! ### all lists of some colours -/
end Gq
namespace Gp
open Gw Gq
end Gp
set_option linter.unusedVariables false
set_option linter.unusedSimpArgs false
namespace Gp
open Gw Gq
end Gp
set_option linter.unusedVariables false
set_option linter.unusedSimpArgs false
namespace Gq
open Gw
def pathsC {α κ : Type} [DecidableEq κ] (B : List α) (S N : α → κ) (ft : α → Nat → Bool) (h : Nat) : Nat → κ → List (List α)
  | 0, _ => [[]]
  | n + 1, x => B.flatMap fun c => if (decide (S c = x) && ft c (h - 1 - n)) = true then (pathsC B S N ft h n (N c)).map (c :: ·) else []
theorem flat_sm {α β : Type} (B : List α) (g : α → List β) : (B.flatMap g).length = sm B fun c => (g c).length := by
  induction B with
  | nil => rfl
  | cons a B ih => rw [List.flatMap_cons, List.length_append, ih, sm_cons]
theorem pathsC_len {α κ : Type} [DecidableEq κ] (B : List α) (S N : α → κ) (ft : α → Nat → Bool) (h : Nat) : ∀ (n : Nat) (x : κ), (pathsC B S N ft h n x).length = upC B S N ft h n x
  | 0, x => rfl
  | n + 1, x => by
    rw [pathsC, flat_sm, upC]
    refine sm_congr fun c _ => ?_
    split
    · rw [List.length_map, pathsC_len B S N ft h n]
    · rfl
theorem flat_nodup {α : Type} {B : List α} (hB : B.Nodup) (q : α → Bool) (p : α → List (List α)) (hp : ∀ c ∈ B, (p c).Nodup) : (B.flatMap fun c => if q c = true then (p c).map (c :: ·) else []).Nodup := by
  induction B with
  | nil => simp
  | cons a B ih =>
    obtain ⟨h1, h2⟩ := List.nodup_cons.1 hB
    rw [List.flatMap_cons, List.nodup_append]
    refine ⟨?_, ih h2 fun c hc => hp c (List.mem_cons_of_mem _ hc), ?_⟩
    · split
      · exact List.Pairwise.map _ (fun x y hxy e => hxy (List.cons.inj e).2) (hp a (List.mem_cons_self ..))
      · exact List.nodup_nil
    · intro x hx y hy e
      split at hx
      · obtain ⟨l, _, rfl⟩ := List.mem_map.1 hx
        obtain ⟨b, hb, h⟩ := List.mem_flatMap.1 hy
        split at h
        · obtain ⟨m, _, rfl⟩ := List.mem_map.1 h
          exact h1 ((List.cons.inj e).1 ▸ hb)
        · cases h
      · cases hx
theorem pathsC_nodup {α κ : Type} [DecidableEq κ] {B : List α} (hB : B.Nodup) (S N : α → κ) (ft : α → Nat → Bool) (h : Nat) : ∀ (n : Nat) (x : κ), (pathsC B S N ft h n x).Nodup
  | 0, x => List.nodup_cons.2 ⟨by simp, List.nodup_nil⟩
  | n + 1, x => flat_nodup hB _ _ fun c _ => pathsC_nodup hB S N ft h n (N c)
theorem pathsC_mem {α κ : Type} [DecidableEq κ] (B : List α) (S N : α → κ) (ft : α → Nat → Bool) (h : Nat) (d : α) : ∀ (n : Nat) (x : κ) (l : List α), l ∈ pathsC B S N ft h n x ↔ l.length = n ∧ (∀ i, i < n → l.getD i d ∈ B ∧ ft (l.getD i d) (h - 1 - (n - 1 - i)) = true) ∧ (0 < n → S (l.getD 0 d) = x) ∧ ∀ i, i + 1 < n → S (l.getD (i + 1) d) = N (l.getD i d)
  | 0, x, l => by
    rw [pathsC, List.mem_singleton]
    constructor
    · rintro rfl; exact ⟨rfl, fun i hi => by omega, fun h => by omega, fun i hi => by omega⟩
    · rintro ⟨h, _⟩; exact List.eq_nil_of_length_eq_zero h
  | n + 1, x, l => by
    rw [pathsC, List.mem_flatMap]
    constructor
    · rintro ⟨c, hc, hl⟩
      split at hl
      · rename_i hq
        rw [Bool.and_eq_true, decide_eq_true_eq] at hq
        obtain ⟨m, hm, rfl⟩ := List.mem_map.1 hl
        obtain ⟨h1, h2, h3, h4⟩ := (pathsC_mem B S N ft h d n (N c) m).1 hm
        refine ⟨by simp [h1], fun i hi => ?_, fun _ => hq.1, fun i hi => ?_⟩
        · cases i with
          | zero => exact ⟨hc, by rw [show n + 1 - 1 - 0 = n by omega]; exact hq.2⟩
          | succ i =>
            have := h2 i (by omega)
            rw [show n - 1 - i = n + 1 - 1 - (i + 1) by omega] at this
            exact this
        · cases i with
          | zero => exact h3 (by omega)
          | succ i => exact h4 i (by omega)
      · cases hl
    · rintro ⟨h1, h2, h3, h4⟩
      cases l with
      | nil => cases h1
      | cons c m =>
        have h20 := h2 0 (by omega)
        rw [show n + 1 - 1 - 0 = n by omega] at h20
        have h20 : c ∈ B ∧ ft c (h - 1 - n) = true := h20
        have h30 : S c = x := h3 (by omega)
        refine ⟨c, h20.1, ?_⟩
        rw [if_pos (by rw [Bool.and_eq_true, decide_eq_true_eq]; exact ⟨h30, h20.2⟩)]
        refine List.mem_map.2 ⟨m, (pathsC_mem B S N ft h d n (N c) m).2 ⟨by simpa using h1, fun i hi => ?_, fun hn => h4 0 (by omega), fun i hi => h4 (i + 1) (by omega)⟩, rfl⟩
        have := h2 (i + 1) (by omega)
        rw [show n + 1 - 1 - (i + 1) = n - 1 - i by omega] at this
        exact this
end Gq
namespace Gp
open Gw Gq
def fillsL (s : List Tile) (w h : Nat) (e : Edges) : List (List (List Nat)) := (rowsL s w []).flatMap fun c => if fitC s w h e c 0 = true then (pathsC (rowsL s w []) (sideS s) (sideN s) (fitC s w h e) h (h - 1) (sideN s c)).map (c :: ·) else []
theorem rowsL_nodup (s : List Tile) : ∀ (n : Nat) (c : List Nat), (rowsL s n c).Nodup
  | 0, c => List.nodup_cons.2 ⟨by simp, List.nodup_nil⟩
  | n + 1, c => by
    rw [rowsL]
    have key : ∀ (L : List Nat), L.Nodup → (L.flatMap fun i => rowsL s n (c ++ [i])).Nodup := by
      intro L
      induction L with
      | nil => intro _; simp
      | cons a L ih =>
        intro hL
        obtain ⟨h1, h2⟩ := List.nodup_cons.1 hL
        rw [List.flatMap_cons, List.nodup_append]
        refine ⟨rowsL_nodup s n _, ih h2, fun x hx y hy e => ?_⟩
        subst e
        obtain ⟨b, hb, hy⟩ := List.mem_flatMap.1 hy
        have e1 := ((mem_rowsL0 s n _ _).1 hx).1
        have e2 := ((mem_rowsL0 s n _ _).1 hy).1
        have : c ++ [a] = c ++ [b] := by rw [← e1, ← e2]; simp
        have : a = b := by simpa using this
        exact h1 (this ▸ hb)
    exact key _ (List.Pairwise.filter _ List.nodup_range)
theorem fillsL_len (s : List Tile) {w h : Nat} (e : Edges) (hh : 1 ≤ h) : (fillsL s w h e).length = waysN s w h e := by
  unfold fillsL waysN
  rw [flat_sm, tot_up _ _ _ _ hh]
  refine sm_congr fun c _ => ?_
  split
  · rw [List.length_map, pathsC_len]
  · rfl
theorem fillsL_nodup (s : List Tile) (w h : Nat) (e : Edges) : (fillsL s w h e).Nodup := flat_nodup (rowsL_nodup s w []) _ _ fun c _ => pathsC_nodup (rowsL_nodup s w []) _ _ _ _ _ _
structure OKG (s : List Tile) (w h : Nat) (e : Edges) (g : Nat → Nat → Nat) : Prop where
  lt : ∀ y x, y < h → x < w → g y x < s.length
  right : ∀ y x, y < h → x + 1 < w → (tat s (g y x)).E = (tat s (g y (x + 1))).W
  up : ∀ y x, y + 1 < h → x < w → (tat s (g y x)).N = (tat s (g (y + 1) x)).S
  west : ∀ y, y < h → atB e.West y (tat s (g y 0)).W = true
  east : ∀ y, y < h → atB e.East y (tat s (g y (w - 1))).E = true
  south : ∀ x, x < w → atB e.South x (tat s (g 0 x)).S = true
  north : ∀ x, x < w → atB e.North x (tat s (g (h - 1) x)).N = true
def cellL (l : List (List Nat)) (y x : Nat) : Nat := (l.getD y []).getD x 0
theorem side_eq (s : List Tile) (f g : Tile → Int) (c d : List Nat) (hl : c.length = d.length) : (c.map fun i => f (tat s i)) = (d.map fun i => g (tat s i)) ↔ ∀ x, x < c.length → f (tat s (c.getD x 0)) = g (tat s (d.getD x 0)) := by
  constructor
  · intro h x hx
    have := congrArg (fun l => l[x]?) h
    simpa [List.getElem?_eq_getElem hx, List.getElem?_eq_getElem (hl ▸ hx)] using this
  · intro h
    refine List.ext_getElem (by simp [hl]) fun i h1 h2 => ?_
    have hi : i < c.length := by simpa using h1
    have := h i hi
    rw [List.getD_eq_getElem?_getD, List.getD_eq_getElem?_getD, List.getElem?_eq_getElem hi, List.getElem?_eq_getElem (hl ▸ hi)] at this
    simpa using this
theorem fillsL_mem {s : List Tile} {w h : Nat} {e : Edges} (hw : 1 ≤ w ∧ w ≤ 8) (hh : 1 ≤ h) (l : List (List Nat)) : l ∈ fillsL s w h e ↔ (l.length = h ∧ ∀ y, y < h → (l.getD y []).length = w) ∧ OKG s w h e (cellL l) := by
  have hrow : ∀ c, RowOK s w c ↔ c.length = w ∧ (∀ x, x < w → c.getD x 0 < s.length) ∧ ∀ x, x + 1 < w → (tat s (c.getD x 0)).E = (tat s (c.getD (x + 1) 0)).W := fun c => ⟨fun h => ⟨h.len, h.lt, h.adj⟩, fun h => ⟨h.1, h.2.1, h.2.2⟩⟩
  have step1 : l ∈ fillsL s w h e ↔ l.length = h ∧ (∀ y, y < h → RowOK s w (l.getD y []) ∧ fitC s w h e (l.getD y []) y = true) ∧ ∀ y, y + 1 < h → sideS s (l.getD (y + 1) []) = sideN s (l.getD y []) := by
    unfold fillsL
    rw [List.mem_flatMap]
    constructor
    · rintro ⟨c, hc, hl⟩
      split at hl
      · rename_i hq
        obtain ⟨m, hm, rfl⟩ := List.mem_map.1 hl
        obtain ⟨h1, h2, h3, h4⟩ := (pathsC_mem _ _ _ _ _ [] _ _ m).1 hm
        refine ⟨by simp [h1]; omega, fun y hy => ?_, fun y hy => ?_⟩
        · cases y with
          | zero => exact ⟨(mem_rowsL s w c).1 hc, hq⟩
          | succ y =>
            have := h2 y (by omega)
            rw [show h - 1 - (h - 1 - 1 - y) = y + 1 by omega] at this
            exact ⟨(mem_rowsL s w _).1 this.1, this.2⟩
        · cases y with
          | zero => exact h3 (by omega)
          | succ y => exact h4 y (by omega)
      · cases hl
    · rintro ⟨h1, h2, h3⟩
      cases l with
      | nil => simp at h1; omega
      | cons c m =>
        have h20 := h2 0 (by omega)
        have h20 : RowOK s w c ∧ fitC s w h e c 0 = true := h20
        refine ⟨c, (mem_rowsL s w c).2 h20.1, ?_⟩
        rw [if_pos h20.2]
        refine List.mem_map.2 ⟨m, (pathsC_mem _ _ _ _ _ [] _ _ m).2 ⟨by simp at h1; omega, fun i hi => ?_, fun hn => h3 0 (by omega), fun i hi => h3 (i + 1) (by omega)⟩, rfl⟩
        have := h2 (i + 1) (by omega)
        rw [show h - 1 - (h - 1 - 1 - i) = i + 1 by omega]
        exact ⟨(mem_rowsL s w _).2 this.1, this.2⟩
  rw [step1]
  constructor
  · rintro ⟨h1, h2, h3⟩
    have hr := fun y hy => (hrow _).1 (h2 y hy).1
    have ha : ∀ y, (hy : y < h) → _ := fun y hy => (al_iff (h2 y hy).1 hw y).1 (h2 y hy).2
    refine ⟨⟨h1, fun y hy => (hr y hy).1⟩, fun y x hy hx => (hr y hy).2.1 x hx, fun y x hy hx => (hr y hy).2.2 x hx, fun y x hy hx => ?_, fun y hy => (ha y hy).1, fun y hy => (ha y hy).2.1, fun x hx => (ha 0 (by omega)).2.2.1 rfl x hx, fun x hx => (ha (h - 1) (by omega)).2.2.2 (by omega) x hx⟩
    have l0 := (hr y (by omega)).1
    have l1 := (hr (y + 1) hy).1
    exact ((side_eq s Tile.S Tile.N _ _ (by omega)).1 (h3 y hy) x (by omega)).symm
  · rintro ⟨⟨h1, h2⟩, g⟩
    have hr : ∀ y, y < h → RowOK s w (l.getD y []) := fun y hy => (hrow _).2 ⟨h2 y hy, fun x hx => g.lt y x hy hx, fun x hx => g.right y x hy hx⟩
    refine ⟨h1, fun y hy => ⟨hr y hy, (al_iff (hr y hy) hw y).2 ⟨g.west y hy, g.east y hy, fun h0 x hx => ?_, fun h0 x hx => ?_⟩⟩, fun y hy => ?_⟩
    · subst h0; exact g.south x hx
    · obtain rfl : y = h - 1 := by omega
      exact g.north x hx
    · have l0 := h2 y (by omega)
      have l1 := h2 (y + 1) hy
      exact (side_eq s Tile.S Tile.N _ _ (by omega)).2 fun x hx => (g.up y x hy (by omega)).symm
def mkL (w h : Nat) (g : Nat → Nat → Nat) : List (List Nat) := (List.range h).map fun y => (List.range w).map fun x => g y x
theorem mkL_row (w h : Nat) (g : Nat → Nat → Nat) {y : Nat} (hy : y < h) : (mkL w h g).getD y [] = (List.range w).map fun x => g y x := by simp [mkL, List.getElem?_range hy]
theorem mkL_cell (w h : Nat) (g : Nat → Nat → Nat) {y x : Nat} (hy : y < h) (hx : x < w) : cellL (mkL w h g) y x = g y x := by
  unfold cellL
  rw [mkL_row w h g hy]
  simp [List.getElem?_range hx]
theorem OKG.congr {s : List Tile} {w h : Nat} {e : Edges} {g g' : Nat → Nat → Nat} (hw : 1 ≤ w) (hh : 1 ≤ h) (hg : ∀ y x, y < h → x < w → g' y x = g y x) (o : OKG s w h e g) : OKG s w h e g' := by
  refine ⟨fun y x hy hx => ?_, fun y x hy hx => ?_, fun y x hy hx => ?_, fun y hy => ?_, fun y hy => ?_, fun x hx => ?_, fun x hx => ?_⟩
  · rw [hg y x hy hx]; exact o.lt y x hy hx
  · rw [hg y x hy (by omega), hg y (x + 1) hy hx]; exact o.right y x hy hx
  · rw [hg y x (by omega) hx, hg (y + 1) x hy hx]; exact o.up y x hy hx
  · rw [hg y 0 hy (by omega)]; exact o.west y hy
  · rw [hg y (w - 1) hy (by omega)]; exact o.east y hy
  · rw [hg 0 x (by omega) hx]; exact o.south x hx
  · rw [hg (h - 1) x (by omega) hx]; exact o.north x hx
end Gp
set_option linter.unusedVariables false
set_option linter.unusedSimpArgs false
namespace Gp
open Gw Gq
theorem awake04_ok (k : Nat) : law04_awake (k + 1300) = some true := by kernel_rfl
/-! numbers of pairs -/
theorem mget_put {κ ν : Type} [DecidableEq κ] (x y : κ) (z v : ν) : ∀ l : List (κ × ν), mget x z (mput y v l) = if x = y then v else mget x z l
  | [] => by simp [mput, mget]
  | p :: r => by
    simp only [mput]
    by_cases h : y = p.1
    · rw [if_pos h]
      simp only [mget]
      by_cases hx : x = y
      · rw [if_pos hx, if_pos hx]
      · rw [if_neg hx, if_neg hx, if_neg (fun e => hx (e.trans h.symm))]
    · rw [if_neg h]
      simp only [mget]
      by_cases hx : x = p.1
      · rw [if_pos hx, if_pos hx, if_neg (fun e => h (e.symm.trans hx))]
      · rw [if_neg hx, if_neg hx]; exact mget_put x y z v r
def insP (p : A2_Int) (P : List A2_Int) : List A2_Int := if p ∈ P then P else P ++ [p]
def ixP (p : A2_Int) (P : List A2_Int) : Nat := P.findIdx fun q => decide (q = p)
def numL : Nat → List A2_Int → List (A2_Int × Int)
  | _, [] => []
  | i, p :: r => (p, (i : Int)) :: numL (i + 1) r
theorem numL_len : ∀ (P : List A2_Int) (i : Nat), (numL i P).length = P.length
  | [], i => rfl
  | p :: r, i => by simp [numL, numL_len r]
theorem mhas_num (p : A2_Int) : ∀ (P : List A2_Int) (i : Nat), mhas p (numL i P) = decide (p ∈ P)
  | [], i => by simp [numL, mhas]
  | q :: r, i => by
    simp only [numL, mhas, mhas_num p r]
    by_cases h : p = q
    · simp [h]
    · simp [h]
theorem mput_num (p : A2_Int) : ∀ (P : List A2_Int) (i : Nat), p ∉ P → mput p ((i + P.length : Nat) : Int) (numL i P) = numL i (P ++ [p])
  | [], i, _ => by simp [numL, mput]
  | q :: r, i, h => by
    have h1 : p ≠ q := fun e => h (by simp [e])
    have h2 : p ∉ r := fun e => h (List.mem_cons_of_mem _ e)
    simp only [numL, mput, List.cons_append]
    rw [if_neg h1, ← mput_num p r (i + 1) h2, List.length_cons, show i + (r.length + 1) = i + 1 + r.length by omega]
theorem mget_num (p : A2_Int) (z : Int) : ∀ (P : List A2_Int) (i : Nat), p ∈ P → mget p z (numL i P) = ((i + ixP p P : Nat) : Int)
  | q :: r, i, h => by
    simp only [numL, mget, ixP, List.findIdx_cons]
    by_cases e : p = q
    · rw [if_pos e]; simp [e]
    · have h2 : p ∈ r := by rcases List.mem_cons.1 h with h | h; exact absurd h e; exact h
      rw [if_neg e, mget_num p z r (i + 1) h2, decide_eq_false (fun x => e x.symm)]
      simp only [cond_false, ixP]; omega
theorem mem_insP (p : A2_Int) (P : List A2_Int) : p ∈ insP p P := by
  unfold insP; split
  · assumption
  · simp
theorem insP_len (p : A2_Int) (P : List A2_Int) : P.length ≤ (insP p P).length ∧ (insP p P).length ≤ P.length + 1 := by
  unfold insP; split <;> simp
theorem on1_eq (x y : Int) (P : List A2_Int) : strip_On_1 x y (numL 0 P) = some (((ixP ⟨x, y⟩ (insP ⟨x, y⟩ P) : Nat) : Int), numL 0 (insP ⟨x, y⟩ P)) := by
  have key : (if (!(mhas (A2_Int.mk x y) (numL 0 P))) = true then some (mput (A2_Int.mk x y) ((numL 0 P).length : Int) (numL 0 P)) else some (numL 0 P)) = some (numL 0 (insP ⟨x, y⟩ P)) := by
    rw [mhas_num, numL_len]
    unfold insP
    by_cases h : (⟨x, y⟩ : A2_Int) ∈ P
    · simp [h]
    · have := mput_num ⟨x, y⟩ P 0 h
      rw [Nat.zero_add] at this
      simp [h, this]
  unfold strip_On_1
  rw [key, Option.bind_some, mget_num _ _ _ _ (mem_insP _ _), Nat.zero_add]
theorem a2_beq (a b : A2_Int) : (a.e0 == b.e0 && (a.e1 == b.e1)) = decide (a = b) := by
  cases a; cases b
  rw [Bool.eq_iff_iff, decide_eq_true_eq]
  simp
theorem number_l0 (p : A2_Int) (P : List A2_Int) (hP : P.length ≤ 1000000) : ∀ (d x k : Nat), x + d = P.length → (∀ (j : Nat) (h : j < P.length), j < x → P[j] ≠ p) → d < k →
    ref04_number.l0 k x P p = some (if p ∈ P then .inl (((ixP p P : Nat) : Int), P) else .inr ())
  | 0, x, k, e, hx, hk => by
    obtain ⟨k, rfl⟩ : ∃ m, k = m + 1 := ⟨k - 1, by omega⟩
    have hn : p ∉ P := fun h => by
      obtain ⟨j, hj, e2⟩ := List.getElem_of_mem h
      exact hx j hj (by omega) e2
    rw [ref04_number.l0, if_neg (by simp; omega), if_neg hn]
  | d + 1, x, k, e, hx, hk => by
    obtain ⟨k, rfl⟩ : ∃ m, k = m + 1 := ⟨k - 1, by omega⟩
    have hlt : x < P.length := by omega
    have hwi : w64 ((x : Int) + 1) = ((x + 1 : Nat) : Int) := by rw [w64_id (by omega) (by omega)]; rfl
    rw [ref04_number.l0, if_pos (by simpa using hlt), if_pos (by omega), rdD_get hlt, a2_beq, hwi]
    by_cases h : P[x] = p
    · have hm : p ∈ P := by rw [← h]; exact List.getElem_mem hlt
      have hix : ixP p P = x := by
        unfold ixP
        rw [List.findIdx_eq hlt]
        exact ⟨by simpa using h, fun j hj => by simpa using hx j (by omega) hj⟩
      rw [if_pos (decide_eq_true h), if_pos hm, hix]
    · rw [if_neg (by simpa using h)]
      exact number_l0 p P hP d (x + 1) k (by omega) (fun j hj hjx => by
        rcases Nat.lt_or_ge j x with h1 | h1
        · exact hx j hj h1
        · have : j = x := by omega
          subst this; exact h) (by omega)
theorem number_eq (p : A2_Int) (P : List A2_Int) (hP : P.length ≤ 1000000) {k : Nat} (hk : P.length < k) : ref04_number k P p = some (((ixP p (insP p P) : Nat) : Int), insP p P) := by
  have h := number_l0 p P hP P.length 0 k (by omega) (fun j h h2 => by omega) hk
  have h : ref04_number.l0 k 0 P p = _ := h
  unfold ref04_number insP
  rw [h]
  by_cases hm : p ∈ P
  · rw [if_pos hm, if_pos hm]; rfl
  · rw [if_neg hm, if_neg hm, Option.bind_some]
    have hix : ixP p (P ++ [p]) = P.length := by
      unfold ixP
      rw [List.findIdx_eq (by simp)]
      refine ⟨by simp, fun j hj => ?_⟩
      rw [List.getElem_append_left hj]
      exact decide_eq_false fun e => hm (e ▸ List.getElem_mem hj)
    show (if P.length + [p].length ≤ 100000000000 then some ((P.length : Int), P ++ [p]) else none) = _
    rw [if_pos (by simp; omega), hix]
end Gp
set_option linter.unusedVariables false
set_option linter.unusedSimpArgs false
namespace Gp
open Gw Gq
structure OnS where
  P : List A2_Int
  out : List Tile
  of_ : List A2_Int
def onStep (a b : List Tile) (i j : Nat) (s : OnS) : Option OnS :=
  if (rdD a (i : Int) z_Tile).N ≠ (rdD b (j : Int) z_Tile).S then some s else
    if (⟨(rdD b (j : Int) z_Tile).N, ((ixP ⟨(rdD a (i : Int) z_Tile).E, (rdD b (j : Int) z_Tile).E⟩ (insP ⟨(rdD a (i : Int) z_Tile).E, (rdD b (j : Int) z_Tile).E⟩ s.P) : Nat) : Int), (rdD a (i : Int) z_Tile).S,
      ((ixP ⟨(rdD a (i : Int) z_Tile).W, (rdD b (j : Int) z_Tile).W⟩ (insP ⟨(rdD a (i : Int) z_Tile).W, (rdD b (j : Int) z_Tile).W⟩ (insP ⟨(rdD a (i : Int) z_Tile).E, (rdD b (j : Int) z_Tile).E⟩ s.P)) : Nat) : Int)⟩ : Tile) ∈ s.out
    then some ⟨insP ⟨(rdD a (i : Int) z_Tile).W, (rdD b (j : Int) z_Tile).W⟩ (insP ⟨(rdD a (i : Int) z_Tile).E, (rdD b (j : Int) z_Tile).E⟩ s.P), s.out, s.of_⟩
    else if s.out.length + 1 > 1000 ∨ (insP ⟨(rdD a (i : Int) z_Tile).W, (rdD b (j : Int) z_Tile).W⟩ (insP ⟨(rdD a (i : Int) z_Tile).E, (rdD b (j : Int) z_Tile).E⟩ s.P)).length > 1000 then none
    else some ⟨insP ⟨(rdD a (i : Int) z_Tile).W, (rdD b (j : Int) z_Tile).W⟩ (insP ⟨(rdD a (i : Int) z_Tile).E, (rdD b (j : Int) z_Tile).E⟩ s.P), s.out ++ [⟨(rdD b (j : Int) z_Tile).N, ((ixP ⟨(rdD a (i : Int) z_Tile).E, (rdD b (j : Int) z_Tile).E⟩ (insP ⟨(rdD a (i : Int) z_Tile).E, (rdD b (j : Int) z_Tile).E⟩ s.P) : Nat) : Int), (rdD a (i : Int) z_Tile).S,
      ((ixP ⟨(rdD a (i : Int) z_Tile).W, (rdD b (j : Int) z_Tile).W⟩ (insP ⟨(rdD a (i : Int) z_Tile).W, (rdD b (j : Int) z_Tile).W⟩ (insP ⟨(rdD a (i : Int) z_Tile).E, (rdD b (j : Int) z_Tile).E⟩ s.P)) : Nat) : Int)⟩], s.of_ ++ [⟨(i : Int), (j : Int)⟩]⟩
def onRow (a b : List Tile) (i : Nat) : Nat → Nat → OnS → Option OnS
  | 0, _, s => some s
  | d + 1, j, s => (onStep a b i j s).bind (onRow a b i d (j + 1))
def onAll (a b : List Tile) : Nat → Nat → OnS → Option OnS
  | 0, _, s => some s
  | d + 1, i, s => (onRow a b i b.length 0 s).bind (onAll a b d (i + 1))
structure OnI (s : OnS) (m : Nat) : Prop where
  out : s.out.length ≤ 1000
  of_ : s.of_.length = s.out.length
  P : s.P.length ≤ m
theorem onStep_inv {a b : List Tile} {i j : Nat} {s s' : OnS} {m : Nat} (h : OnI s m) (e : onStep a b i j s = some s') : OnI s' (m + 2) := by
  have h1 := h.out; have h2 := h.of_; have h3 := h.P
  unfold onStep at e
  split at e
  · injection e with e; subst e; exact ⟨h1, h2, by omega⟩
  · split at e
    · injection e with e; subst e
      exact ⟨h1, h2, by
        have ha := (insP_len ⟨(rdD a (i : Int) z_Tile).E, (rdD b (j : Int) z_Tile).E⟩ s.P).2
        have hb := (insP_len ⟨(rdD a (i : Int) z_Tile).W, (rdD b (j : Int) z_Tile).W⟩ (insP ⟨(rdD a (i : Int) z_Tile).E, (rdD b (j : Int) z_Tile).E⟩ s.P)).2
        show (insP _ (insP _ s.P)).length ≤ m + 2
        omega⟩
    · split at e
      · cases e
      · rename_i hg
        injection e with e; subst e
        exact ⟨by simp; omega, by simp; omega, by
          have ha := (insP_len ⟨(rdD a (i : Int) z_Tile).E, (rdD b (j : Int) z_Tile).E⟩ s.P).2
          have hb := (insP_len ⟨(rdD a (i : Int) z_Tile).W, (rdD b (j : Int) z_Tile).W⟩ (insP ⟨(rdD a (i : Int) z_Tile).E, (rdD b (j : Int) z_Tile).E⟩ s.P)).2
          show (insP _ (insP _ s.P)).length ≤ m + 2
          omega⟩
theorem onRow_inv {a b : List Tile} {i : Nat} : ∀ (d j : Nat) {s s' : OnS} {m : Nat}, OnI s m → onRow a b i d j s = some s' → OnI s' (m + 2 * d)
  | 0, j, s, s', m, h, e => by injection e with e; subst e; exact h
  | d + 1, j, s, s', m, h, e => by
    obtain ⟨s1, h1, h2⟩ := bind_some (show (onStep a b i j s).bind (onRow a b i d (j + 1)) = some s' from e)
    have := onRow_inv d (j + 1) (onStep_inv h h1) h2
    rwa [show m + 2 + 2 * d = m + 2 * (d + 1) by omega] at this
def MetOK (met : List (Tile × Bool)) (s : OnS) : Prop := ∀ t, mget t false met = decide (t ∈ s.out)
theorem onP_one {a b : List Tile} {i j : Nat} (hi : i < a.length) (hj : j < b.length) (hb : b.length ≤ 1000) {s : OnS} {m : Nat} (h : OnI s m) {met : List (Tile × Bool)} (hm : MetOK met s) (k : Nat) :
    (match onStep a b i j s with
      | none => strip_On.l1 (k + 1) (numL 0 s.P) s.out s.of_ met j a b i = some (.inl ([], [], 4))
      | some s' => ∃ met', MetOK met' s' ∧ strip_On.l1 (k + 1) (numL 0 s.P) s.out s.of_ met j a b i = strip_On.l1 k (numL 0 s'.P) s'.out s'.of_ met' ((j + 1 : Nat) : Int) a b i) := by
  have h1 := h.out; have h2 := h.of_
  have hwi : w64 ((j : Int) + 1) = ((j + 1 : Nat) : Int) := by rw [w64_id (by omega) (by omega)]; rfl
  rw [strip_On.l1, if_pos (by simpa using hj), if_pos (show 0 ≤ (j : Int) ∧ (j : Int) < (b.length : Int) by omega), hwi]
  unfold onStep
  by_cases hN : (rdD a (i : Int) z_Tile).N = (rdD b (j : Int) z_Tile).S
  rotate_left
  · rw [if_pos hN]
    refine ⟨met, hm, ?_⟩
    rw [if_pos (by simpa using hN)]; rfl
  have hn1 : ¬ ((rdD a (i : Int) z_Tile).N ≠ (rdD b (j : Int) z_Tile).S) := by simpa using hN
  have hn2 : ¬ (((rdD a (i : Int) z_Tile).N != (rdD b (j : Int) z_Tile).S) = true) := by simpa using hN
  rw [if_neg hn1, if_neg hn2]
  simp only [on1_eq, Option.bind_some]
  by_cases ht : (⟨(rdD b (j : Int) z_Tile).N, ((ixP ⟨(rdD a (i : Int) z_Tile).E, (rdD b (j : Int) z_Tile).E⟩ (insP ⟨(rdD a (i : Int) z_Tile).E, (rdD b (j : Int) z_Tile).E⟩ s.P) : Nat) : Int), (rdD a (i : Int) z_Tile).S,
      ((ixP ⟨(rdD a (i : Int) z_Tile).W, (rdD b (j : Int) z_Tile).W⟩ (insP ⟨(rdD a (i : Int) z_Tile).W, (rdD b (j : Int) z_Tile).W⟩ (insP ⟨(rdD a (i : Int) z_Tile).E, (rdD b (j : Int) z_Tile).E⟩ s.P)) : Nat) : Int)⟩ : Tile) ∈ s.out
  · rw [if_pos ht]
    refine ⟨met, hm, ?_⟩
    rw [hm, if_pos (decide_eq_true ht)]; rfl
  · rw [if_neg ht, hm, decide_eq_false ht, if_neg (show ¬ (false = true) by simp), if_pos (show s.out.length + [_].length ≤ 100000000000 by simp; omega), if_pos (show s.of_.length + [_].length ≤ 100000000000 by simp; omega)]
    by_cases hg : s.out.length + 1 > 1000 ∨ (insP ⟨(rdD a (i : Int) z_Tile).W, (rdD b (j : Int) z_Tile).W⟩ (insP ⟨(rdD a (i : Int) z_Tile).E, (rdD b (j : Int) z_Tile).E⟩ s.P)).length > 1000
    · rw [if_pos hg, if_pos (by rw [numL_len]; simp; omega)]; rfl
    · rw [if_neg hg, if_neg (by rw [numL_len]; simp; omega)]
      refine ⟨mput _ true met, fun t => ?_, rfl⟩
      rw [mget_put, hm t]
      by_cases e : t = (⟨(rdD b (j : Int) z_Tile).N, ((ixP ⟨(rdD a (i : Int) z_Tile).E, (rdD b (j : Int) z_Tile).E⟩ (insP ⟨(rdD a (i : Int) z_Tile).E, (rdD b (j : Int) z_Tile).E⟩ s.P) : Nat) : Int), (rdD a (i : Int) z_Tile).S,
      ((ixP ⟨(rdD a (i : Int) z_Tile).W, (rdD b (j : Int) z_Tile).W⟩ (insP ⟨(rdD a (i : Int) z_Tile).W, (rdD b (j : Int) z_Tile).W⟩ (insP ⟨(rdD a (i : Int) z_Tile).E, (rdD b (j : Int) z_Tile).E⟩ s.P)) : Nat) : Int)⟩ : Tile)
      · rw [if_pos e]; simp [e]
      · rw [if_neg e]; simp [e]
theorem onP_l1 {a b : List Tile} {i : Nat} (hi : i < a.length) (hb : b.length ≤ 1000) : ∀ (d j k : Nat) (s : OnS) (m : Nat) (met : List (Tile × Bool)), j + d = b.length → d < k → OnI s m → MetOK met s →
    (match onRow a b i d j s with
      | none => strip_On.l1 k (numL 0 s.P) s.out s.of_ met j a b i = some (.inl ([], [], 4))
      | some s' => ∃ met', MetOK met' s' ∧ strip_On.l1 k (numL 0 s.P) s.out s.of_ met j a b i = some (.inr (numL 0 s'.P, s'.out, s'.of_, met')))
  | 0, j, k, s, m, met, e, hk, h, hm => by
    obtain ⟨k, rfl⟩ : ∃ m, k = m + 1 := ⟨k - 1, by omega⟩
    exact ⟨met, hm, by rw [strip_On.l1, if_neg (by simp; omega)]⟩
  | d + 1, j, k, s, m, met, e, hk, h, hm => by
    obtain ⟨k, rfl⟩ : ∃ m, k = m + 1 := ⟨k - 1, by omega⟩
    have one := onP_one hi (j := j) (by omega) hb h hm k
    rw [onRow]
    cases hs : onStep a b i j s with
    | none => rw [hs] at one; exact one
    | some s1 =>
      rw [hs] at one
      obtain ⟨met1, hm1, e1⟩ := one
      have ih := onP_l1 hi hb d (j + 1) k s1 (m + 2) met1 (by omega) (by omega) (onStep_inv h hs) hm1
      rw [Option.bind_some, e1]
      exact ih
end Gp
set_option linter.unusedVariables false
set_option linter.unusedSimpArgs false
namespace Gp
open Gw Gq
theorem onP_l0 {a b : List Tile} (ha : a.length ≤ 1000) (hb : b.length ≤ 1000) : ∀ (d i k : Nat) (s : OnS) (m : Nat) (met : List (Tile × Bool)), i + d = a.length → d + b.length < k → OnI s m → MetOK met s →
    (match onAll a b d i s with
      | none => strip_On.l0 k (numL 0 s.P) s.out s.of_ met i a b = some (.inl ([], [], 4))
      | some s' => strip_On.l0 k (numL 0 s.P) s.out s.of_ met i a b = some (.inr (s'.out, s'.of_)))
  | 0, i, k, s, m, met, e, hk, h, hm => by
    obtain ⟨k, rfl⟩ : ∃ m, k = m + 1 := ⟨k - 1, by omega⟩
    show strip_On.l0 (k + 1) _ _ _ _ _ _ _ = _
    rw [strip_On.l0, if_neg (by simp; omega)]
  | d + 1, i, k, s, m, met, e, hk, h, hm => by
    obtain ⟨k, rfl⟩ : ∃ m, k = m + 1 := ⟨k - 1, by omega⟩
    have hi : i < a.length := by omega
    have hwi : w64 ((i : Int) + 1) = ((i + 1 : Nat) : Int) := by rw [w64_id (by omega) (by omega)]; rfl
    have row := onP_l1 hi hb b.length 0 k s m met (by omega) (by omega) h hm
    rw [strip_On.l0, if_pos (by simpa using hi), if_pos (show 0 ≤ (i : Int) ∧ (i : Int) < (a.length : Int) by omega), hwi, onAll]
    cases hs : onRow a b i b.length 0 s with
    | none =>
      rw [hs] at row
      have row : strip_On.l1 k (numL 0 s.P) s.out s.of_ met 0 a b i = _ := row
      rw [row]; rfl
    | some s1 =>
      rw [hs] at row
      obtain ⟨met1, hm1, e1⟩ := row
      have e1 : strip_On.l1 k (numL 0 s.P) s.out s.of_ met 0 a b i = _ := e1
      rw [e1]
      exact onP_l0 ha hb d (i + 1) k s1 _ met1 (by omega) (by omega) (onRow_inv b.length 0 h hs) hm1
def onZ : OnS := ⟨[], [], []⟩
theorem on_eq {a b : List Tile} (hva : validT a = true) (hvb : validT b = true) {k : Nat} (hk : 3000 < k) : strip_On k a b = some (match onAll a b a.length 0 onZ with
    | none => ([], [], 4)
    | some s => (s.out, s.of_, 0)) := by
  have ha := valid_len hva; have hb := valid_len hvb
  have h := onP_l0 ha hb a.length 0 k onZ 0 [] (by omega) (by omega) ⟨by simp [onZ], rfl, by simp [onZ]⟩ (fun t => by simp [mget, onZ])
  unfold strip_On
  rw [tile_valid a (by omega) (by omega), Option.bind_some, hva, if_neg (by simp), tile_valid b (by omega) (by omega), Option.bind_some, hvb, Option.bind_some, if_neg (by simp)]
  cases hs : onAll a b a.length 0 onZ with
  | none => rw [hs] at h; have h : strip_On.l0 k [] [] [] [] 0 a b = _ := h; rw [h]; rfl
  | some s => rw [hs] at h; have h : strip_On.l0 k [] [] [] [] 0 a b = _ := h; rw [h]; rfl
/-! the reference -/
theorem tile_beq4 (u : Tile) (n e s w : Int) : (u.N == n && (u.E == e && (u.S == s && (u.W == w)))) = decide (u = ⟨n, e, s, w⟩) := by
  cases u
  rw [Bool.eq_iff_iff, decide_eq_true_eq]
  simp
theorem onR_l2 (a b : List Tile) (i j : Int) (L : List Tile) (hL : L.length ≤ 1000000) (p q : Int × List A2_Int) : ∀ (d x k : Nat) (v : Bool), x + d = L.length → d < k →
    ref04_On.l2 k v x a b i L j p q = some (v || decide ((⟨(rdD b j z_Tile).N, p.1, (rdD a i z_Tile).S, q.1⟩ : Tile) ∈ L.drop x))
  | 0, x, k, v, e, hk => by
    obtain ⟨k, rfl⟩ : ∃ m, k = m + 1 := ⟨k - 1, by omega⟩
    rw [ref04_On.l2, if_neg (by simp; omega), List.drop_of_length_le (by omega)]; simp
  | d + 1, x, k, v, e, hk => by
    obtain ⟨k, rfl⟩ : ∃ m, k = m + 1 := ⟨k - 1, by omega⟩
    have hlt : x < L.length := by omega
    have hwi : w64 ((x : Int) + 1) = ((x + 1 : Nat) : Int) := by rw [w64_id (by omega) (by omega)]; rfl
    rw [ref04_On.l2, if_pos (by simpa using hlt), if_pos (show 0 ≤ (x : Int) ∧ (x : Int) < (L.length : Int) by omega), rdD_get hlt, tile_beq4, hwi, List.drop_eq_getElem_cons hlt]
    have : (if v = true then some true else some (decide (L[x] = (⟨(rdD b j z_Tile).N, p.1, (rdD a i z_Tile).S, q.1⟩ : Tile)))) = some (v || decide (L[x] = (⟨(rdD b j z_Tile).N, p.1, (rdD a i z_Tile).S, q.1⟩ : Tile))) := by cases v <;> rfl
    rw [this, Option.bind_some, onR_l2 a b i j L hL p q d (x + 1) k _ (by omega) (by omega)]
    congr 1
    rw [Bool.or_assoc]
    congr 1
    rw [Bool.eq_iff_iff]
    simp only [Bool.or_eq_true, decide_eq_true_eq, List.mem_cons]
    exact ⟨fun h => h.elim (fun h => .inl h.symm) .inr, fun h => h.elim (fun h => .inl h.symm) .inr⟩
theorem onR_one {a b : List Tile} {i j : Nat} (hi : i < a.length) (hj : j < b.length) (hb : b.length ≤ 1000) {s : OnS} {m : Nat} (h : OnI s m) (hm : m + 2 ≤ 1000000) {k : Nat} (hk : 1000010 < k) :
    ref04_On.l1 (k + 1) s.out s.of_ s.P j a b i = (match onStep a b i j s with
      | none => some (.inl ([], [], false))
      | some s' => ref04_On.l1 k s'.out s'.of_ s'.P ((j + 1 : Nat) : Int) a b i) := by
  have h1 := h.out; have h2 := h.of_; have h3 := h.P
  have hwi : w64 ((j : Int) + 1) = ((j + 1 : Nat) : Int) := by rw [w64_id (by omega) (by omega)]; rfl
  have hA := (insP_len ⟨(rdD a (i : Int) z_Tile).E, (rdD b (j : Int) z_Tile).E⟩ s.P).2
  rw [ref04_On.l1, if_pos (by simpa using hj), if_pos (show 0 ≤ (i : Int) ∧ (i : Int) < (a.length : Int) by omega), if_pos (show 0 ≤ (j : Int) ∧ (j : Int) < (b.length : Int) by omega), hwi]
  unfold onStep
  by_cases hN : (rdD a (i : Int) z_Tile).N = (rdD b (j : Int) z_Tile).S
  rotate_left
  · rw [if_pos hN, if_pos (by simpa using hN)]; rfl
  have hn1 : ¬ ((rdD a (i : Int) z_Tile).N ≠ (rdD b (j : Int) z_Tile).S) := by simpa using hN
  have hn2 : ¬ (((rdD a (i : Int) z_Tile).N != (rdD b (j : Int) z_Tile).S) = true) := by simpa using hN
  rw [if_neg hn1, if_neg hn2, number_eq _ _ (by omega) (by omega), Option.bind_some, number_eq _ _ (by simp only; omega) (by simp only; omega), Option.bind_some]
  have l2 := fun p q => onR_l2 a b i j s.out (by omega) p q s.out.length 0 k false (by omega) (by omega)
  have l2 : ∀ p q, ref04_On.l2 k false 0 a b i s.out j p q = _ := l2
  rw [l2, Option.bind_some, Bool.false_or, List.drop_zero]
  by_cases ht : (⟨(rdD b (j : Int) z_Tile).N, ((ixP ⟨(rdD a (i : Int) z_Tile).E, (rdD b (j : Int) z_Tile).E⟩ (insP ⟨(rdD a (i : Int) z_Tile).E, (rdD b (j : Int) z_Tile).E⟩ s.P) : Nat) : Int), (rdD a (i : Int) z_Tile).S,
      ((ixP ⟨(rdD a (i : Int) z_Tile).W, (rdD b (j : Int) z_Tile).W⟩ (insP ⟨(rdD a (i : Int) z_Tile).W, (rdD b (j : Int) z_Tile).W⟩ (insP ⟨(rdD a (i : Int) z_Tile).E, (rdD b (j : Int) z_Tile).E⟩ s.P)) : Nat) : Int)⟩ : Tile) ∈ s.out
  · rw [if_pos ht, if_pos (decide_eq_true ht)]; rfl
  · rw [if_neg ht, decide_eq_false ht, if_neg (show ¬ (false = true) by simp), if_pos (show s.out.length + [_].length ≤ 100000000000 by simp; omega), if_pos (show s.of_.length + [_].length ≤ 100000000000 by simp; omega)]
    by_cases hg : s.out.length + 1 > 1000 ∨ (insP ⟨(rdD a (i : Int) z_Tile).W, (rdD b (j : Int) z_Tile).W⟩ (insP ⟨(rdD a (i : Int) z_Tile).E, (rdD b (j : Int) z_Tile).E⟩ s.P)).length > 1000
    · rw [if_pos hg, if_pos (by simp; omega)]; rfl
    · rw [if_neg hg, if_neg (by simp; omega)]; rfl
theorem onR_l1 {a b : List Tile} {i : Nat} (hi : i < a.length) (hb : b.length ≤ 1000) : ∀ (d j k : Nat) (s : OnS) (m : Nat), j + d = b.length → d + 1000010 < k → OnI s m → m + 2 * d ≤ 1000000 →
    ref04_On.l1 k s.out s.of_ s.P j a b i = (match onRow a b i d j s with
      | none => some (.inl ([], [], false))
      | some s' => some (.inr (s'.out, s'.of_, s'.P)))
  | 0, j, k, s, m, e, hk, h, hm => by
    obtain ⟨k, rfl⟩ : ∃ m, k = m + 1 := ⟨k - 1, by omega⟩
    rw [ref04_On.l1, if_neg (by simp; omega)]; rfl
  | d + 1, j, k, s, m, e, hk, h, hm => by
    obtain ⟨k, rfl⟩ : ∃ m, k = m + 1 := ⟨k - 1, by omega⟩
    rw [onR_one hi (by omega) hb h (by omega) (by omega), onRow]
    cases hs : onStep a b i j s with
    | none => rfl
    | some s1 => exact onR_l1 hi hb d (j + 1) k s1 (m + 2) (by omega) (by omega) (onStep_inv h hs) (by omega)
theorem onR_l0 {a b : List Tile} (ha : a.length ≤ 1000) (hb : b.length ≤ 1000) : ∀ (d i k : Nat) (s : OnS) (m : Nat), i + d = a.length → d + 1002000 < k → OnI s m → m + d * (2 * b.length) ≤ 1000000 →
    ref04_On.l0 k s.out s.of_ s.P i a b = (match onAll a b d i s with
      | none => some (.inl ([], [], false))
      | some s' => some (.inr (s'.out, s'.of_)))
  | 0, i, k, s, m, e, hk, h, hm => by
    obtain ⟨k, rfl⟩ : ∃ m, k = m + 1 := ⟨k - 1, by omega⟩
    rw [ref04_On.l0, if_neg (by simp; omega)]; rfl
  | d + 1, i, k, s, m, e, hk, h, hm => by
    obtain ⟨k, rfl⟩ : ∃ m, k = m + 1 := ⟨k - 1, by omega⟩
    have hi : i < a.length := by omega
    have hwi : w64 ((i : Int) + 1) = ((i + 1 : Nat) : Int) := by rw [w64_id (by omega) (by omega)]; rfl
    rw [Nat.add_mul, Nat.one_mul] at hm
    have row := onR_l1 hi hb b.length 0 k s m (by omega) (by omega) h (by omega)
    have row : ref04_On.l1 k s.out s.of_ s.P 0 a b i = _ := row
    rw [ref04_On.l0, if_pos (by simpa using hi), hwi, onAll, row]
    cases hs : onRow a b i b.length 0 s with
    | none => rfl
    | some s1 => exact onR_l0 ha hb d (i + 1) k s1 _ (by omega) (by omega) (onRow_inv b.length 0 h hs) (by omega)
theorem refOn_eq {a b : List Tile} (ha : a.length ≤ 1000) (hb : b.length ≤ 1000) (hab : a.length * b.length ≤ 100000) {k : Nat} (hk : 1003100 < k) : ref04_On k a b = some (match onAll a b a.length 0 onZ with
    | none => ([], [], false)
    | some s => (s.out, s.of_, true)) := by
  have e2 : a.length * (2 * b.length) = 2 * (a.length * b.length) := by rw [← Nat.mul_assoc, Nat.mul_comm a.length 2, Nat.mul_assoc]
  have h := onR_l0 ha hb a.length 0 k onZ 0 (by omega) (by omega) ⟨by simp [onZ], rfl, by simp [onZ]⟩ (by omega)
  have h : ref04_On.l0 k [] [] [] 0 a b = _ := h
  unfold ref04_On
  rw [h]
  cases onAll a b a.length 0 onZ <;> rfl
end Gp
set_option linter.unusedVariables false
set_option linter.unusedSimpArgs false
namespace Gp
open Gw Gq
end Gp
set_option linter.unusedVariables false
set_option linter.unusedSimpArgs false
set_option maxRecDepth 4000
namespace Gp
open Gw Gq
theorem u64_id {n : Nat} (h : n < 18446744073709551616) : Go.IntKind.u64.wrap (n : Int) = n := by
  simp [Go.IntKind.wrap, Go.IntKind.bits, Go.IntKind.signed]; omega
theorem bv_of {n : Nat} : (BitVec.ofInt 64 (n : Int)).toNat = n % 18446744073709551616 := by
  rw [BitVec.toNat_ofInt]
  show ((n : Int) % ((2 ^ 64 : Nat) : Int)).toNat = _
  have : ((2 ^ 64 : Nat) : Int) = 18446744073709551616 := by decide
  rw [this]; omega
theorem shl1 {x : Nat} (h : x < 64) : shlV 1 (x : Int) = ((2 ^ x : Nat) : Int) := by
  unfold shlV
  rw [Int.toNat_natCast, Int.one_mul]
  have hp : (2 : Nat) ^ x < 18446744073709551616 := by
    have := Nat.pow_lt_pow_right (a := 2) (by omega) h
    exact this
  have : ((2 : Int) ^ x) = ((2 ^ x : Nat) : Int) := by simp
  rw [this, u64_id hp]
theorem orN {a b : Nat} (ha : a < 18446744073709551616) (hb : b < 18446744073709551616) : orV (a : Int) (b : Int) = ((a ||| b : Nat) : Int) ∧ a ||| b < 18446744073709551616 := by
  have hlt : a ||| b < 18446744073709551616 := Nat.or_lt_two_pow (n := 64) ha hb
  refine ⟨?_, hlt⟩
  unfold orV
  rw [BitVec.toNat_or, bv_of, bv_of, Nat.mod_eq_of_lt ha, Nat.mod_eq_of_lt hb, u64_id hlt]
theorem hasN {a x : Nat} (ha : a < 18446744073709551616) (hx : x < 64) : (andV (shrV (a : Int) (x : Int)) 1 == 1) = a.testBit x := by
  have hs : shrV (a : Int) (x : Int) = ((a / 2 ^ x : Nat) : Int) := by
    unfold shrV
    rw [Int.toNat_natCast, Int.fdiv_eq_ediv_of_nonneg _ (by exact Int.le_of_lt (Int.pow_pos (by decide)))]
    simp
  have hd : a / 2 ^ x < 18446744073709551616 := Nat.lt_of_le_of_lt (Nat.div_le_self _ _) ha
  have e1 : (BitVec.ofInt 64 (1 : Int)).toNat = 1 := by decide
  have e2 : andV (shrV (a : Int) (x : Int)) 1 = ((a / 2 ^ x % 2 : Nat) : Int) := by
    unfold andV
    rw [hs, BitVec.toNat_and, bv_of, e1, Nat.mod_eq_of_lt hd, Nat.and_one_is_mod, u64_id (Nat.lt_of_lt_of_le (Nat.mod_lt _ (by omega)) (by omega))]
  rw [e2, Nat.testBit_eq_decide_div_mod_eq, Bool.eq_iff_iff]
  generalize a / 2 ^ x % 2 = m
  simp only [beq_iff_eq, decide_eq_true_eq]
  omega
def wdsA (c : A16_Int) : List Int := [c.e0, c.e1, c.e2, c.e3, c.e4, c.e5, c.e6, c.e7, c.e8, c.e9, c.e10, c.e11, c.e12, c.e13, c.e14, c.e15]
theorem wds_set (c : A16_Int) {i : Int} (hi : 0 ≤ i ∧ i < 16) (v : Int) : wdsA (A16_Int.set c i v) = (wdsA c).set i.toNat v := cases16 (Q := fun z => wdsA (A16_Int.set c z v) = (wdsA c).set z.toNat v) hi rfl rfl rfl rfl rfl rfl rfl rfl rfl rfl rfl rfl rfl rfl rfl rfl
theorem get_wds (c : A16_Int) (i : Int) : A16_Int.get c i = getI (wdsA c) i := rfl
def okC (c : A16_Int) : Prop := ∀ i : Nat, i < 16 → ∃ n : Nat, getI (wdsA c) (i : Int) = n ∧ n < 18446744073709551616
def hasC (c : A16_Int) (x : Nat) : Bool := (getI (wdsA c) ((x / 64 : Nat) : Int)).toNat.testBit (x % 64)
theorem divmod {x : Nat} (hx : x < 1000) : w64 (Int.tdiv (x : Int) 64) = ((x / 64 : Nat) : Int) ∧ Int.tmod (x : Int) 64 = ((x % 64 : Nat) : Int) := by
  have h1 : Int.tdiv (x : Int) 64 = ((x / 64 : Nat) : Int) := rfl
  have h2 : Int.tmod (x : Int) 64 = ((x % 64 : Nat) : Int) := rfl
  exact ⟨by rw [h1, w64_id (by omega) (by omega)], h2⟩
theorem hasC_eq {c : A16_Int} (hc : okC c) {x : Nat} (hx : x < 1000) : strip_colours_has c (x : Int) = some (hasC c x) := by
  obtain ⟨e1, e2⟩ := divmod hx
  obtain ⟨n, en, hn⟩ := hc (x / 64) (by omega)
  unfold strip_colours_has hasC
  rw [e1, e2, if_pos (by omega), if_pos (by omega), get_wds, en, hasN hn (by omega), Int.toNat_natCast]
theorem put_eqL {c : A16_Int} (hc : okC c) {x : Nat} (hx : x < 1000) : ∃ c', strip_colours_put c (x : Int) = some c' ∧ okC c' ∧ ∀ y, y < 1024 → hasC c' y = (hasC c y || decide (y = x)) := by
  obtain ⟨e1, e2⟩ := divmod hx
  obtain ⟨n, en, hn⟩ := hc (x / 64) (by omega)
  have hp : 2 ^ (x % 64) < 18446744073709551616 := Nat.pow_lt_pow_right (a := 2) (by omega) (show x % 64 < 64 by omega)
  obtain ⟨o1, o2⟩ := orN hn hp
  unfold strip_colours_put
  rw [e1, e2, if_pos (by omega), if_pos (by omega), get_wds, en, shl1 (by omega), o1]
  have hg : ∀ i : Nat, i < 16 → getI (wdsA (A16_Int.set c ((x / 64 : Nat) : Int) ((n ||| 2 ^ (x % 64) : Nat) : Int))) (i : Int) = if i = x / 64 then ((n ||| 2 ^ (x % 64) : Nat) : Int) else getI (wdsA c) (i : Int) := fun i hi => by
    rw [wds_set c (by omega)]
    unfold getI
    rw [Int.toNat_natCast, Int.toNat_natCast, List.getD_eq_getElem?_getD, List.getElem?_set]
    by_cases h : x / 64 = i
    · rw [if_pos h, if_pos h.symm, if_pos (by simp [wdsA]; omega)]; rfl
    · rw [if_neg h, if_neg (fun e => h e.symm), List.getD_eq_getElem?_getD]
  refine ⟨_, rfl, fun i hi => ?_, fun y hy => ?_⟩
  · rw [hg i hi]
    split
    · exact ⟨_, rfl, o2⟩
    · exact hc i hi
  · unfold hasC
    rw [hg (y / 64) (by omega)]
    by_cases h : y / 64 = x / 64
    · rw [if_pos h, h, en, Int.toNat_natCast, Int.toNat_natCast, Nat.testBit_or, Nat.testBit_two_pow]
      congr 1
      rw [Bool.eq_iff_iff]; simp; omega
    · rw [if_neg h]
      have : decide (y = x) = false := decide_eq_false fun e => h (by rw [e])
      rw [this, Bool.or_false]
theorem put_eq {c : A16_Int} (hc : okC c) {x : Nat} (hx : x < 1000) : ∃ c', strip_colours_put c (x : Int) = some c' ∧ okC c' ∧ ∀ y, y < 1000 → hasC c' y = (hasC c y || decide (y = x)) := by
  obtain ⟨c', h1, h2, h3⟩ := put_eqL hc hx
  exact ⟨c', h1, h2, fun y hy => h3 y (by omega)⟩
def zC : A16_Int := ⟨0, 0, 0, 0, 0, 0, 0, 0, 0, 0, 0, 0, 0, 0, 0, 0⟩
theorem okC_z : okC zC := fun i hi => ⟨0, by
  have : ∀ j : Fin 16, getI (wdsA zC) ((j : Nat) : Int) = ((0 : Nat) : Int) := by decide
  exact this ⟨i, hi⟩, by omega⟩
theorem hasC_zL {x : Nat} (hx : x < 1024) : hasC zC x = false := by
  have : ∀ j : Fin 16, getI (wdsA zC) ((j : Nat) : Int) = 0 := by decide
  have := this ⟨x / 64, by omega⟩
  unfold hasC
  rw [this]; simp
theorem hasC_z {x : Nat} (hx : x < 1000) : hasC zC x = false := hasC_zL (by omega)
end Gp
set_option linter.unusedVariables false
set_option linter.unusedSimpArgs false
namespace Gp
open Gw Gq
theorem has_el_eq (l : List A16_Int) {i : Nat} (hi : i < l.length) (x : Int) : strip_colours_has_el l (i : Int) x = strip_colours_has l[i] x := by
  unfold strip_colours_has_el strip_colours_has
  rw [if_pos (show 0 ≤ (i : Int) ∧ (i : Int) < (l.length : Int) by omega), rdD_get hi]
theorem put_el_eq (l : List A16_Int) {i : Nat} (hi : i < l.length) (x : Int) {c : A16_Int} (h : strip_colours_put l[i] x = some c) : strip_colours_put_el l (i : Int) x = some (l.set i c) := by
  unfold strip_colours_put at h
  unfold strip_colours_put_el
  rw [if_pos (show 0 ≤ (i : Int) ∧ (i : Int) < (l.length : Int) by omega), rdD_get hi, Int.toNat_natCast]
  split at h
  · rename_i h1
    split at h
    · rename_i h2
      injection h with h
      rw [if_pos h1, if_pos h2, h]
    · cases h
  · cases h
def leadR (s : List Tile) (to : Int) : Nat → Int → Bool
  | 0, y => decide (y = to)
  | k + 1, y => s.any fun t => decide (t.W = y) && leadR s to k t.E
def colB4 (s : List Tile) : Prop := ∀ t ∈ s, (0 ≤ t.N ∧ t.N < 1000) ∧ (0 ≤ t.E ∧ t.E < 1000) ∧ (0 ≤ t.S ∧ t.S < 1000) ∧ (0 ≤ t.W ∧ t.W < 1000)
structure CanI (s : List Tile) (to : Int) (n K : Nat) (l : List A16_Int) : Prop where
  len : l.length = n + 1
  ok : ∀ (i : Nat) (h : i < l.length), okC l[i]
  lo : ∀ (i : Nat) (h : i < l.length), i < K → ∀ y : Nat, y < 1000 → hasC l[i] y = leadR s to i (y : Int)
  hi : ∀ (i : Nat) (h : i < l.length), K < i → ∀ y : Nat, y < 1000 → hasC l[i] y = false
theorem path_l1 {s : List Tile} (hs : colB4 s) (hls : s.length ≤ 1000) {to : Int} {n K : Nat} (hK : 1 ≤ K ∧ K ≤ n) (hn : n ≤ 40000) : ∀ (d x k : Nat) (l : List A16_Int), x + d = s.length → d < k → CanI s to n K l →
    (∀ y : Nat, y < 1000 → ∀ h : K < l.length, hasC l[K] y = (s.take x).any fun t => decide (t.W = (y : Int)) && leadR s to (K - 1) t.E) → ∃ l', strip_Path.l1 k l x s K = some l' ∧ CanI s to n (K + 1) l' ∧ ∀ (h : K + 1 < l'.length) (y : Nat), y < 1000 → hasC l'[K + 1] y = false
  | 0, x, k, l, e, hk, h, hx => by
    obtain ⟨k, rfl⟩ : ∃ m, k = m + 1 := ⟨k - 1, by omega⟩
    refine ⟨l, by rw [strip_Path.l1, if_neg (by simp; omega)], ⟨h.len, h.ok, fun i hi hiK y hy => ?_, fun i hi hiK => h.hi i hi (by omega)⟩, fun hh y hy => h.hi (K + 1) hh (by omega) y hy⟩
    rcases Nat.lt_or_ge i K with h1 | h1
    · exact h.lo i hi h1 y hy
    · have : i = K := by omega
      subst this
      rw [hx y hy hi, List.take_of_length_le (by omega)]
      obtain ⟨m, rfl⟩ : ∃ m, i = m + 1 := ⟨i - 1, by omega⟩
      rfl
  | d + 1, x, k, l, e, hk, h, hx => by
    obtain ⟨k, rfl⟩ : ∃ m, k = m + 1 := ⟨k - 1, by omega⟩
    have hlt : x < s.length := by omega
    have hlen := h.len
    have hwi : w64 ((x : Int) + 1) = ((x + 1 : Nat) : Int) := by rw [w64_id (by omega) (by omega)]; rfl
    have hwk : w64 ((K : Int) - 1) = ((K - 1 : Nat) : Int) := by rw [w64_id (by omega) (by omega)]; omega
    have hk1 : K - 1 < l.length := by omega
    have hkl : K < l.length := by omega
    obtain ⟨-, ⟨hE0, hE1⟩, -, ⟨hW0, hW1⟩⟩ := hs s[x] (List.getElem_mem hlt)
    obtain ⟨eE, heE⟩ : ∃ m : Nat, s[x].E = m := ⟨s[x].E.toNat, by omega⟩
    obtain ⟨wW, hwW⟩ : ∃ m : Nat, s[x].W = m := ⟨s[x].W.toNat, by omega⟩
    have hhas : strip_colours_has_el l ((K - 1 : Nat) : Int) s[x].E = some (leadR s to (K - 1) s[x].E) := by
      rw [has_el_eq l hk1, heE, hasC_eq (h.ok _ hk1) (by omega), h.lo _ hk1 (by omega) eE (by omega)]
    have htake : ∀ (f : Tile → Bool), (s.take (x + 1)).any f = ((s.take x).any f || f s[x]) := fun f => by
      rw [List.take_succ_eq_append_getElem hlt, List.any_append]; simp
    rw [strip_Path.l1, if_pos (by simpa using hlt), if_pos (show 0 ≤ (x : Int) ∧ (x : Int) < (s.length : Int) by omega), hwk, if_pos (show 0 ≤ ((K - 1 : Nat) : Int) ∧ ((K - 1 : Nat) : Int) < (l.length : Int) by omega), rdD_get hlt, hhas, Option.bind_some, hwi]
    cases hb : leadR s to (K - 1) s[x].E
    · rw [if_neg (by simp), Option.bind_some]
      exact path_l1 hs hls hK hn d (x + 1) k l (by omega) (by omega) h fun y hy hh => by rw [htake, hx y hy hh, hb]; simp
    · obtain ⟨c, hc1, hc2, hc3⟩ := put_eq (h.ok K hkl) (x := wW) (by omega)
      rw [if_pos rfl, if_pos (show 0 ≤ (K : Int) ∧ (K : Int) < (l.length : Int) by omega), hwW, put_el_eq l hkl _ hc1, Option.bind_some, Option.bind_some]
      refine path_l1 hs hls hK hn d (x + 1) k _ (by omega) (by omega) ⟨by simp [hlen], fun i hi => ?_, fun i hi hiK y hy => ?_, fun i hi hiK y hy => ?_⟩ fun y hy hh => ?_
      · rw [List.getElem_set]; split
        · exact hc2
        · exact h.ok i _
      · rw [List.getElem_set_ne (by omega)]; exact h.lo i _ hiK y hy
      · rw [List.getElem_set_ne (by omega)]; exact h.hi i _ hiK y hy
      · rw [List.getElem_set_self, hc3 y hy, htake, hx y hy hkl, hb, hwW]
        congr 1
        rw [Bool.and_true, Bool.eq_iff_iff]; simp; omega
theorem path_l0 {s : List Tile} (hs : colB4 s) (hls : s.length ≤ 1000) {to : Int} {n : Nat} (hn : n ≤ 40000) : ∀ (d K k : Nat) (l : List A16_Int), K + d = n + 1 → 1 ≤ K → d + 1001 < k → CanI s to n K l → (∀ (h : K < l.length) (y : Nat), y < 1000 → hasC l[K] y = false) → ∃ l', strip_Path.l0 k l K s n = some l' ∧ CanI s to n (n + 1) l'
  | 0, K, k, l, e, h1, hk, h, hz => by
    obtain ⟨k, rfl⟩ : ∃ m, k = m + 1 := ⟨k - 1, by omega⟩
    refine ⟨l, by rw [strip_Path.l0, if_neg (by simp; omega)], ?_⟩
    rwa [show K = n + 1 by omega] at h
  | d + 1, K, k, l, e, h1, hk, h, hz => by
    obtain ⟨k, rfl⟩ : ∃ m, k = m + 1 := ⟨k - 1, by omega⟩
    have hlen := h.len
    have hwi : w64 ((K : Int) + 1) = ((K + 1 : Nat) : Int) := by rw [w64_id (by omega) (by omega)]; rfl
    obtain ⟨l', e1, h', hz'⟩ := path_l1 hs hls (K := K) ⟨h1, by omega⟩ hn s.length 0 k l (by omega) (by omega) h (fun y hy hh => by rw [hz hh y hy]; simp)
    have e1 : strip_Path.l1 k l 0 s K = some l' := e1
    rw [strip_Path.l0, if_pos (by simp; omega), e1, Option.bind_some, hwi]
    exact path_l0 hs hls hn d (K + 1) k l' (by omega) (by omega) (by omega) h' hz'
def walkC (s : List Tile) (to : Int) : Nat → Int → List Int
  | 0, _ => []
  | m + 1, at_ => match s.findIdx? fun t => decide (t.W = at_) && leadR s to m t.E with
    | none => walkC s to m at_
    | some i => (i : Int) :: walkC s to m (rdD s (i : Int) z_Tile).E
theorem idx_none {α : Type} {p : α → Bool} {l : List α} : l.findIdx? p = none ↔ l.any p = false := by
  rw [List.findIdx?_eq_none_iff, List.any_eq_false]
  simp
theorem path_l3 {s : List Tile} (hs : colB4 s) (hls : s.length ≤ 1000) {to : Int} {n : Nat} {l : List A16_Int} (h : CanI s to n (n + 1) l) (cells : List Int) (hc : cells.length ≤ 100000) (at_ : Int) {m : Nat} (hm : m ≤ n) (hn : n ≤ 40000) : ∀ (d x k : Nat), x + d = s.length → d < k →
    strip_Path.l3 k x s l cells at_ m = some (match (s.drop x).findIdx? (fun t => decide (t.W = at_) && leadR s to m t.E) with
      | none => (cells, at_)
      | some i => (cells ++ [((x + i : Nat) : Int)], (rdD s ((x + i : Nat) : Int) z_Tile).E))
  | 0, x, k, e, hk => by
    obtain ⟨k, rfl⟩ : ∃ m, k = m + 1 := ⟨k - 1, by omega⟩
    rw [strip_Path.l3, if_neg (by simp; omega), List.drop_of_length_le (by omega)]; rfl
  | d + 1, x, k, e, hk => by
    obtain ⟨k, rfl⟩ : ∃ m, k = m + 1 := ⟨k - 1, by omega⟩
    have hlt : x < s.length := by omega
    have hlen := h.len
    have hwi : w64 ((x : Int) + 1) = ((x + 1 : Nat) : Int) := by rw [w64_id (by omega) (by omega)]; rfl
    obtain ⟨-, ⟨hE0, hE1⟩, -, -⟩ := hs s[x] (List.getElem_mem hlt)
    obtain ⟨eE, heE⟩ : ∃ m : Nat, s[x].E = m := ⟨s[x].E.toNat, by omega⟩
    have hml : m < l.length := by omega
    have hhas : strip_colours_has_el l (m : Int) s[x].E = some (leadR s to m s[x].E) := by
      rw [has_el_eq l hml, heE, hasC_eq (h.ok _ hml) (by omega), h.lo _ hml (by omega) eE (by omega)]
    rw [strip_Path.l3, if_pos (by simpa using hlt), if_pos (show 0 ≤ (x : Int) ∧ (x : Int) < (s.length : Int) by omega), if_pos (show 0 ≤ (m : Int) ∧ (m : Int) < (l.length : Int) by omega), rdD_get hlt, hhas, Option.bind_some, hwi, List.drop_eq_getElem_cons hlt, List.findIdx?_cons]
    have e1 : (if (s[x].W == at_) = true then some (leadR s to m s[x].E) else some false) = some (decide (s[x].W = at_) && leadR s to m s[x].E) := by
      by_cases hw : s[x].W = at_
      · rw [if_pos (by simpa using hw), decide_eq_true hw]; rfl
      · rw [if_neg (by simpa using hw), decide_eq_false hw]; rfl
    rw [e1, Option.bind_some]
    cases hb : decide (s[x].W = at_) && leadR s to m s[x].E
    · rw [if_neg (by simp), path_l3 hs hls h cells hc at_ hm hn d (x + 1) k (by omega) (by omega)]
      simp only [Bool.false_eq_true, if_false]
      cases hf : (s.drop (x + 1)).findIdx? (fun t => decide (t.W = at_) && leadR s to m t.E) with
      | none => simp
      | some i => simp [Nat.add_assoc, Nat.add_comm 1 i]
    · rw [if_pos rfl, if_pos (by simp; omega)]
      simp [rdD_get hlt]
theorem path_l2 {s : List Tile} (hs : colB4 s) (hls : s.length ≤ 1000) {to : Int} {n : Nat} {l : List A16_Int} (h : CanI s to n (n + 1) l) (hn : n ≤ 40000) : ∀ (m k : Nat) (cells : List Int) (at_ : Int), m ≤ n + 1 → m + 1001 < k → cells.length + m ≤ 100000 →
    strip_Path.l2 k cells at_ ((m : Int) - 1) s l = some (cells ++ walkC s to m at_)
  | 0, k, cells, at_, hm, hk, hc => by
    obtain ⟨k, rfl⟩ : ∃ m, k = m + 1 := ⟨k - 1, by omega⟩
    rw [strip_Path.l2, if_neg (by simp)]; simp [walkC]
  | m + 1, k, cells, at_, hm, hk, hc => by
    obtain ⟨k, rfl⟩ : ∃ m, k = m + 1 := ⟨k - 1, by omega⟩
    have e0 : ((m + 1 : Nat) : Int) - 1 = (m : Int) := by omega
    have hwi : w64 ((m : Int) - 1) = (m : Int) - 1 := w64_id (by omega) (by omega)
    have l3 := path_l3 hs hls h cells (by omega) at_ (m := m) (by omega) hn s.length 0 k (by omega) (by omega)
    have l3 : strip_Path.l3 k 0 s l cells at_ m = _ := l3
    rw [e0, strip_Path.l2, if_pos (by simp), l3, Option.bind_some, hwi, List.drop_zero, walkC]
    cases hf : s.findIdx? (fun t => decide (t.W = at_) && leadR s to m t.E) with
    | none => exact path_l2 hs hls h hn m k cells at_ (by omega) (by omega) (by omega)
    | some i =>
      simp only [Nat.zero_add]
      rw [path_l2 hs hls h hn m k _ _ (by omega) (by omega) (by simp; omega)]
      simp
end Gp
set_option linter.unusedVariables false
set_option linter.unusedSimpArgs false
namespace Gp
open Gw Gq
theorem leadR_rng {s : List Tile} (hs : colB4 s) {to : Int} : ∀ {k : Nat} {y : Int}, leadR s to (k + 1) y = true → (0 ≤ y ∧ y < 1000) ∧ (0 ≤ to ∧ to < 1000)
  | 0, y, h => by
    unfold leadR at h
    rw [List.any_eq_true] at h
    obtain ⟨t, ht, h2⟩ := h
    rw [Bool.and_eq_true] at h2
    obtain ⟨-, h5, -, h6⟩ := hs t ht
    have h7 := of_decide_eq_true h2.1
    have h8 := of_decide_eq_true (show decide (t.E = to) = true from h2.2)
    omega
  | k + 1, y, h => by
    unfold leadR at h
    rw [List.any_eq_true] at h
    obtain ⟨t, ht, h2⟩ := h
    rw [Bool.and_eq_true] at h2
    obtain ⟨-, -, -, h6⟩ := hs t ht
    have h7 := of_decide_eq_true h2.1
    have h8 := (leadR_rng hs h2.2).2
    omega
theorem validT_iff4 (s : List Tile) : validT s = true ↔ s.length ≤ 1000 ∧ s.Nodup ∧ ∀ t ∈ s, colB t = true := by
  unfold validT
  simp only [Bool.and_eq_true, decide_eq_true_eq, List.all_eq_true, List.mem_range]
  have hg : ∀ i (h : i < s.length), s.getD i z_Tile = s[i] := fun i h => by simp [List.getElem?_eq_getElem h]
  refine and_congr_right fun _ => ⟨fun h => ⟨?_, fun t ht => ?_⟩, fun h i hi => ?_⟩
  · rw [List.Nodup, List.pairwise_iff_getElem]
    intro i j hi hj hij he
    have := h j hj
    unfold newB at this
    rw [hg j hj, Bool.and_eq_true, Bool.not_eq_true', decide_eq_false_iff_not] at this
    exact this.1 (by rw [← he]; exact List.mem_take_iff_getElem.2 ⟨i, by omega, rfl⟩)
  · obtain ⟨i, hi, rfl⟩ := List.getElem_of_mem ht
    have := h i hi
    unfold newB at this
    rw [hg i hi, Bool.and_eq_true] at this
    exact this.2
  · unfold newB
    rw [hg i hi, h.2 _ (List.getElem_mem hi), Bool.and_true, Bool.not_eq_true', decide_eq_false_iff_not]
    intro hm
    obtain ⟨j, hj, he⟩ := List.mem_take_iff_getElem.1 hm
    have := h.1
    rw [List.Nodup, List.pairwise_iff_getElem] at this
    exact this j i (by omega) hi (by omega) he
theorem colB4_of {s : List Tile} (hv : validT s = true) : colB4 s := by
  have := ((validT_iff4 s).1 hv).2.2
  intro t ht
  have := this t ht
  unfold colB inCol at this
  simp only [Bool.and_eq_true, decide_eq_true_eq] at this
  omega
theorem path_eq {s : List Tile} (hv : validT s = true) (from_ to : Int) {n : Nat} (hn : 1 ≤ n ∧ n ≤ 40000) {k : Nat} (hk : 50000 < k) : strip_Path k s from_ to n = some (if leadR s to n from_ = true then (walkC s to n from_, 0) else ([], 6)) := by
  have hl := valid_len hv
  have hs := colB4_of hv
  unfold strip_Path
  rw [tile_valid s (by omega) (by omega), Option.bind_some, hv, if_neg (by decide), if_neg (by simp; omega)]
  by_cases hr : (0 ≤ from_ ∧ from_ < 1000) ∧ (0 ≤ to ∧ to < 1000)
  rotate_left
  · have hf : leadR s to n from_ = false := by
      cases hb : leadR s to n from_
      · rfl
      · obtain ⟨m, rfl⟩ : ∃ m, n = m + 1 := ⟨n - 1, by omega⟩
        exact absurd (leadR_rng hs hb) hr
    rw [if_pos (by unfold minI maxI; simp; split <;> split <;> omega), hf, if_neg (by simp)]
  obtain ⟨f, rfl⟩ : ∃ f : Nat, from_ = f := ⟨from_.toNat, by omega⟩
  obtain ⟨t, rfl⟩ : ∃ t : Nat, to = t := ⟨to.toNat, by omega⟩
  have hwn : w64 ((n : Int) + 1) = ((n + 1 : Nat) : Int) := by rw [w64_id (by omega) (by omega)]; rfl
  have hwm : w64 ((n : Int) - 1) = (n : Int) - 1 := w64_id (by omega) (by omega)
  have hz0 : ∀ (i : Nat) (h : i < (List.replicate (n + 1) z_A16_Int).length), (List.replicate (n + 1) z_A16_Int)[i] = zC := fun i h => by rw [List.getElem_replicate]; rfl
  have h0l : 0 < (List.replicate (n + 1) z_A16_Int).length := by simp
  obtain ⟨c, hc1, hc2, hc3⟩ := put_eq okC_z (x := t) (by omega)
  have hput : strip_colours_put_el (List.replicate (n + 1) z_A16_Int) (0 : Int) (t : Int) = some ((List.replicate (n + 1) z_A16_Int).set 0 c) := put_el_eq _ h0l _ (by rw [hz0 0 h0l]; exact hc1)
  have hI : CanI s t n 1 ((List.replicate (n + 1) z_A16_Int).set 0 c) := by
    refine ⟨by simp, fun i hi => ?_, fun i hi hi1 y hy => ?_, fun i hi hi1 y hy => ?_⟩
    · rw [List.getElem_set]; split
      · exact hc2
      · rw [hz0 i _]; exact okC_z
    · have : i = 0 := by omega
      subst this
      rw [List.getElem_set_self, hc3 y hy, hasC_z hy, Bool.false_or]
      unfold leadR
      rw [Bool.eq_iff_iff]; simp; omega
    · rw [List.getElem_set_ne (by omega), hz0 i _, hasC_z hy]
  obtain ⟨l, e1, hL⟩ := path_l0 hs hl (n := n) (by omega) n 1 k _ (by omega) (by omega) (by omega) hI (fun h y hy => by rw [List.getElem_set_ne (by omega), hz0 1 _, hasC_z hy])
  have e1 : strip_Path.l0 k ((List.replicate (n + 1) z_A16_Int).set 0 c) 1 s n = some l := e1
  have hlen := hL.len
  have hhas : strip_colours_has_el l (n : Int) (f : Int) = some (leadR s t n f) := by
    rw [has_el_eq l (by omega), hasC_eq (hL.ok _ (by omega)) (by omega), hL.lo n (by omega) (by omega) f (by omega)]
  rw [if_neg (by unfold minI maxI; simp; split <;> split <;> omega), hwn, if_pos (by omega), Int.toNat_natCast, if_pos (show 0 ≤ (0 : Int) ∧ (0 : Int) < ((List.replicate (n + 1) z_A16_Int).length : Int) by rw [List.length_replicate]; omega), hput, Option.bind_some, e1, Option.bind_some, if_pos (show 0 ≤ (n : Int) ∧ (n : Int) < (l.length : Int) by omega), hhas, Option.bind_some, hwm]
  cases hb : leadR s t n f
  · rw [if_pos (by decide), if_neg (by simp)]
  · rw [if_neg (by decide), if_pos rfl, path_l2 hs hl hL (by omega) n k [] f (by omega) (by omega) (by simp; omega)]; rfl
end Gp
set_option linter.unusedVariables false
set_option linter.unusedSimpArgs false
namespace Gp
open Gw Gq
theorem ixP_lt {p : A2_Int} {P : List A2_Int} (h : p ∈ P) : ixP p P < P.length := List.findIdx_lt_length_of_exists ⟨p, h, decide_eq_true rfl⟩
theorem ixP_get {p : A2_Int} {P : List A2_Int} (h : p ∈ P) : P[ixP p P]'(ixP_lt h) = p := of_decide_eq_true (List.findIdx_getElem (p := fun q => decide (q = p)) (xs := P) (w := ixP_lt h))
theorem ixP_inj {p q : A2_Int} {P : List A2_Int} (hp : p ∈ P) (hq : q ∈ P) : ixP p P = ixP q P ↔ p = q := by
  refine ⟨fun e => ?_, fun e => by rw [e]⟩
  have h1 := ixP_get hp
  have h2 := ixP_get hq
  rw [← h1, ← h2]
  congr 1
theorem ixP_ins {p : A2_Int} (q : A2_Int) {P : List A2_Int} (h : p ∈ P) : ixP p (insP q P) = ixP p P ∧ p ∈ insP q P := by
  unfold insP
  split
  · exact ⟨rfl, h⟩
  · refine ⟨?_, List.mem_append_left _ h⟩
    show List.findIdx (fun x => decide (x = p)) (P ++ [q]) = List.findIdx (fun x => decide (x = p)) P
    rw [List.findIdx_append]; exact if_pos (ixP_lt h)
def matchL (a b : List Tile) (i j : Nat) : List A2_Int := if (rdD a (i : Int) z_Tile).N = (rdD b (j : Int) z_Tile).S then [⟨(i : Int), (j : Int)⟩] else []
def rowM (a b : List Tile) (i : Nat) : Nat → Nat → List A2_Int
  | 0, _ => []
  | d + 1, j => matchL a b i j ++ rowM a b i d (j + 1)
def allM (a b : List Tile) : Nat → Nat → List A2_Int
  | 0, _ => []
  | d + 1, i => rowM a b i b.length 0 ++ allM a b d (i + 1)
def stT (a b : List Tile) (P : List A2_Int) (i j : Nat) : Tile := ⟨(rdD b (j : Int) z_Tile).N, ((ixP ⟨(rdD a (i : Int) z_Tile).E, (rdD b (j : Int) z_Tile).E⟩ P : Nat) : Int), (rdD a (i : Int) z_Tile).S, ((ixP ⟨(rdD a (i : Int) z_Tile).W, (rdD b (j : Int) z_Tile).W⟩ P : Nat) : Int)⟩
structure StT (a b : List Tile) (P : List A2_Int) (p : A2_Int) (t : Tile) (i j : Nat) : Prop where
  iL : i < a.length
  jL : j < b.length
  pE : p = ⟨(i : Int), (j : Int)⟩
  up : (rdD a (i : Int) z_Tile).N = (rdD b (j : Int) z_Tile).S
  E : (⟨(rdD a (i : Int) z_Tile).E, (rdD b (j : Int) z_Tile).E⟩ : A2_Int) ∈ P
  W : (⟨(rdD a (i : Int) z_Tile).W, (rdD b (j : Int) z_Tile).W⟩ : A2_Int) ∈ P
  tE : t = stT a b P i j
structure StkI (a b : List Tile) (s : OnS) (L : List A2_Int) (m : Nat) : Prop where
  len : s.of_.length = s.out.length
  nd : s.out.Nodup
  sub : s.of_.Sublist L
  P : s.P.length ≤ m
  cnt : 2 * s.out.length ≤ m
  til : ∀ (x : Nat) (h : x < s.of_.length) (h' : x < s.out.length), ∃ i j : Nat, StT a b s.P s.of_[x] s.out[x] i j
theorem StT.ins {a b : List Tile} {P : List A2_Int} {p : A2_Int} {t : Tile} {i j : Nat} (h : StT a b P p t i j) (q : A2_Int) : StT a b (insP q P) p t i j := by
  obtain ⟨e1, e2⟩ := ixP_ins q h.E
  obtain ⟨w1, w2⟩ := ixP_ins q h.W
  exact ⟨h.iL, h.jL, h.pE, h.up, e2, w2, by rw [h.tE]; unfold stT; rw [e1, w1]⟩
theorem stk_step {a b : List Tile} {i j : Nat} (hi : i < a.length) (hj : j < b.length) {s : OnS} {L : List A2_Int} {m : Nat} (h : StkI a b s L m) (hm : m + 2 ≤ 1000) : ∃ s', onStep a b i j s = some s' ∧ StkI a b s' (L ++ matchL a b i j) (m + 2) := by
  obtain ⟨l1, l2, l3, l4, l5, l6⟩ := h
  unfold onStep matchL
  by_cases hN : (rdD a (i : Int) z_Tile).N = (rdD b (j : Int) z_Tile).S
  rotate_left
  · rw [if_pos hN, if_neg hN, List.append_nil]
    exact ⟨s, rfl, l1, l2, l3, by omega, by omega, l6⟩
  rw [if_neg (by simpa using hN), if_pos hN]
  generalize hp : (⟨(rdD a (i : Int) z_Tile).E, (rdD b (j : Int) z_Tile).E⟩ : A2_Int) = p
  generalize hq : (⟨(rdD a (i : Int) z_Tile).W, (rdD b (j : Int) z_Tile).W⟩ : A2_Int) = q
  have pl1 := (insP_len p s.P).2
  have pl2 := (insP_len q (insP p s.P)).2
  obtain ⟨i1, i2⟩ := ixP_ins q (mem_insP p s.P)
  have hq1 := mem_insP q (insP p s.P)
  have hst : (⟨(rdD b (j : Int) z_Tile).N, ((ixP p (insP p s.P) : Nat) : Int), (rdD a (i : Int) z_Tile).S, ((ixP q (insP q (insP p s.P)) : Nat) : Int)⟩ : Tile) = stT a b (insP q (insP p s.P)) i j := by
    unfold stT; rw [hp, hq, i1]
  rw [hst]
  have til : ∀ (x : Nat) (h : x < s.of_.length) (h' : x < s.out.length), ∃ i j : Nat, StT a b (insP q (insP p s.P)) s.of_[x] s.out[x] i j := fun x h h' => by
    obtain ⟨i, j, h⟩ := l6 x h h'
    exact ⟨i, j, (h.ins p).ins q⟩
  by_cases ht : stT a b (insP q (insP p s.P)) i j ∈ s.out
  · rw [if_pos ht]
    exact ⟨_, rfl, l1, l2, l3.trans (List.sublist_append_left _ _), by show (insP _ _).length ≤ _; omega, by show 2 * s.out.length ≤ _; omega, til⟩
  · rw [if_neg ht, if_neg (by omega)]
    refine ⟨_, rfl, by simp [l1], ?_, List.Sublist.append l3 (List.Sublist.refl _), by show (insP _ _).length ≤ _; omega, by simp; omega, ?_⟩
    · show (s.out ++ [_]).Nodup
      rw [List.nodup_append]
      refine ⟨l2, by simp, ?_⟩
      intro x hx y hy e
      rw [List.mem_singleton] at hy
      exact ht (by rw [← hy, ← e]; exact hx)
    · intro x h h'
      show ∃ i' j' : Nat, StT a b (insP q (insP p s.P)) (s.of_ ++ [_])[x] (s.out ++ [_])[x] i' j'
      by_cases hx : x < s.out.length
      · obtain ⟨i', j', h2⟩ := til x (by omega) hx
        refine ⟨i', j', ?_⟩
        rw [List.getElem_append_left (by omega), List.getElem_append_left hx]
        exact h2
      · have h3 : x < (s.out ++ [stT a b (insP q (insP p s.P)) i j]).length := h'
        rw [List.length_append, List.length_singleton] at h3
        have h4 : x = s.out.length := by omega
        refine ⟨i, j, ?_⟩
        rw [List.getElem_append_right (by omega), List.getElem_append_right (by omega)]
        simp only [List.getElem_singleton]
        exact ⟨hi, hj, rfl, hN, by rw [hp]; exact i2, by rw [hq]; exact hq1, rfl⟩
theorem stk_row {a b : List Tile} {i : Nat} (hi : i < a.length) : ∀ (d j : Nat) {s : OnS} {L : List A2_Int} {m : Nat}, j + d = b.length → StkI a b s L m → m + 2 * d ≤ 1000 → ∃ s', onRow a b i d j s = some s' ∧ StkI a b s' (L ++ rowM a b i d j) (m + 2 * d)
  | 0, j, s, L, m, e, h, hm => ⟨s, rfl, by rw [rowM, List.append_nil]; exact h⟩
  | d + 1, j, s, L, m, e, h, hm => by
    obtain ⟨s1, e1, h1⟩ := stk_step (j := j) hi (by omega) h (by omega)
    obtain ⟨s2, e2, h2⟩ := stk_row hi d (j + 1) (by omega) h1 (by omega)
    refine ⟨s2, by rw [onRow, e1]; exact e2, ?_⟩
    rw [rowM, ← List.append_assoc, show m + 2 * (d + 1) = m + 2 + 2 * d by omega]
    exact h2
theorem stk_all {a b : List Tile} : ∀ (d i : Nat) {s : OnS} {L : List A2_Int} {m : Nat}, i + d = a.length → StkI a b s L m → m + d * (2 * b.length) ≤ 1000 → ∃ s', onAll a b d i s = some s' ∧ StkI a b s' (L ++ allM a b d i) (m + d * (2 * b.length))
  | 0, i, s, L, m, e, h, hm => ⟨s, rfl, by rw [allM, List.append_nil]; simpa using h⟩
  | d + 1, i, s, L, m, e, h, hm => by
    rw [Nat.add_mul, Nat.one_mul] at hm
    obtain ⟨s1, e1, h1⟩ := stk_row (show i < a.length by omega) b.length 0 (by omega) h (by omega)
    obtain ⟨s2, e2, h2⟩ := stk_all d (i + 1) (by omega) h1 (by omega)
    refine ⟨s2, by rw [onAll, e1]; exact e2, ?_⟩
    rw [allM, ← List.append_assoc, Nat.add_mul, Nat.one_mul, show m + (d * (2 * b.length) + 2 * b.length) = m + 2 * b.length + d * (2 * b.length) by omega]
    exact h2
theorem stk_self {s : List Tile} (hl : s.length ≤ 4) : ∃ o, onAll s s s.length 0 onZ = some o ∧ StkI s s o (allM s s s.length 0) 32 := by
  have hm : s.length * (2 * s.length) ≤ 4 * 8 := Nat.mul_le_mul hl (by omega)
  obtain ⟨o, e, h⟩ := stk_all (a := s) (b := s) s.length 0 (s := onZ) (L := []) (m := 0) (by omega) ⟨rfl, List.nodup_nil, List.Sublist.refl _, by simp [onZ], by simp [onZ], fun x h => by simp [onZ] at h⟩ (by omega)
  obtain ⟨l1, l2, l3, l4, l5, l6⟩ := h
  exact ⟨o, e, l1, l2, by simpa using l3, by omega, by omega, l6⟩
theorem mem_rowM {a b : List Tile} {i : Nat} {p : A2_Int} : ∀ (d j : Nat), p ∈ rowM a b i d j ↔ ∃ y, j ≤ y ∧ y < j + d ∧ p = ⟨(i : Int), (y : Int)⟩ ∧ (rdD a (i : Int) z_Tile).N = (rdD b (y : Int) z_Tile).S
  | 0, j => by
    rw [rowM]
    exact ⟨fun h => by simp at h, fun ⟨y, h1, h2, _⟩ => by omega⟩
  | d + 1, j => by
    rw [rowM, List.mem_append, mem_rowM d (j + 1)]
    unfold matchL
    constructor
    · rintro (h | ⟨y, h1, h2, h3⟩)
      · split at h
        · rename_i hN
          exact ⟨j, by omega, by omega, by simpa using h, hN⟩
        · simp at h
      · exact ⟨y, by omega, by omega, h3⟩
    · rintro ⟨y, h1, h2, h3, h4⟩
      by_cases e : y = j
      · subst e
        left; rw [if_pos h4]; simp [h3]
      · exact .inr ⟨y, by omega, by omega, h3, h4⟩
theorem mem_allM {a b : List Tile} {p : A2_Int} : ∀ (d i : Nat), p ∈ allM a b d i ↔ ∃ x y, i ≤ x ∧ x < i + d ∧ y < b.length ∧ p = ⟨(x : Int), (y : Int)⟩ ∧ (rdD a (x : Int) z_Tile).N = (rdD b (y : Int) z_Tile).S
  | 0, i => by
    rw [allM]
    exact ⟨fun h => by simp at h, fun ⟨x, y, h1, h2, _⟩ => by omega⟩
  | d + 1, i => by
    rw [allM, List.mem_append, mem_allM d (i + 1), mem_rowM]
    constructor
    · rintro (⟨y, h1, h2, h3, h4⟩ | ⟨x, y, h1, h2, h3⟩)
      · exact ⟨i, y, by omega, by omega, by omega, h3, h4⟩
      · exact ⟨x, y, by omega, by omega, h3⟩
    · rintro ⟨x, y, h1, h2, h3, h4, h5⟩
      by_cases e : x = i
      · subst e
        exact .inl ⟨y, by omega, by omega, h4, h5⟩
      · exact .inr ⟨x, y, by omega, by omega, h3, h4, h5⟩
end Gp
set_option linter.unusedVariables false
set_option linter.unusedSimpArgs false
namespace Gp
open Gw Gq
def iX (o : OnS) (x : Nat) : Nat := (o.of_.getD x ⟨0, 0⟩).e0.toNat
def jX (o : OnS) (x : Nat) : Nat := (o.of_.getD x ⟨0, 0⟩).e1.toNat
theorem rd_tat (s : List Tile) (i : Nat) : rdD s (i : Int) z_Tile = tat s i := rfl
structure StX (s : List Tile) (o : OnS) (x : Nat) : Prop where
  iL : iX o x < s.length
  jL : jX o x < s.length
  pE : o.of_.getD x ⟨0, 0⟩ = ⟨(iX o x : Int), (jX o x : Int)⟩
  up : (tat s (iX o x)).N = (tat s (jX o x)).S
  E : (⟨(tat s (iX o x)).E, (tat s (jX o x)).E⟩ : A2_Int) ∈ o.P
  W : (⟨(tat s (iX o x)).W, (tat s (jX o x)).W⟩ : A2_Int) ∈ o.P
  tE : tat o.out x = ⟨(tat s (jX o x)).N, ((ixP ⟨(tat s (iX o x)).E, (tat s (jX o x)).E⟩ o.P : Nat) : Int), (tat s (iX o x)).S, ((ixP ⟨(tat s (iX o x)).W, (tat s (jX o x)).W⟩ o.P : Nat) : Int)⟩
theorem stk_x {s : List Tile} {o : OnS} {L : List A2_Int} {m : Nat} (h : StkI s s o L m) {x : Nat} (hx : x < o.out.length) : StX s o x := by
  have hx2 : x < o.of_.length := by rw [h.len]; exact hx
  obtain ⟨i, j, c⟩ := h.til x hx2 hx
  have g1 : o.of_.getD x ⟨0, 0⟩ = ⟨(i : Int), (j : Int)⟩ := by
    rw [List.getD_eq_getElem?_getD, List.getElem?_eq_getElem hx2]; exact c.pE
  have g2 : tat o.out x = o.out[x] := by
    show o.out.getD x z_Tile = _
    rw [List.getD_eq_getElem?_getD, List.getElem?_eq_getElem hx]; rfl
  have e1 : iX o x = i := by unfold iX; rw [g1]; rfl
  have e2 : jX o x = j := by unfold jX; rw [g1]; rfl
  exact ⟨by rw [e1]; exact c.iL, by rw [e2]; exact c.jL, by rw [e1, e2]; exact g1, by rw [e1, e2]; exact c.up, by rw [e1, e2]; exact c.E, by rw [e1, e2]; exact c.W, by rw [e1, e2, g2]; exact c.tE⟩
theorem a2_iff (a b c d : Int) : (⟨a, b⟩ : A2_Int) = ⟨c, d⟩ ↔ a = c ∧ b = d := by simp
theorem StX.ew {s : List Tile} {o : OnS} {x y : Nat} (h : StX s o x) (g : StX s o y) : (tat o.out x).E = (tat o.out y).W ↔ (tat s (iX o x)).E = (tat s (iX o y)).W ∧ (tat s (jX o x)).E = (tat s (jX o y)).W := by
  rw [h.tE, g.tE, ← a2_iff, ← ixP_inj h.E g.W]
  exact Int.ofNat_inj
theorem StX.ee {s : List Tile} {o : OnS} {x y : Nat} (h : StX s o x) (g : StX s o y) : (tat o.out x).E = (tat o.out y).E ↔ (tat s (iX o x)).E = (tat s (iX o y)).E ∧ (tat s (jX o x)).E = (tat s (jX o y)).E := by
  rw [h.tE, g.tE, ← a2_iff, ← ixP_inj h.E g.E]
  exact Int.ofNat_inj
theorem stk_inj {s : List Tile} {o : OnS} {L : List A2_Int} {m : Nat} (h : StkI s s o L m) {x y : Nat} (hx : x < o.out.length) (hy : y < o.out.length) (e1 : iX o x = iX o y) (e2 : jX o x = jX o y) : x = y := by
  have a := (stk_x h hx).tE
  have b := (stk_x h hy).tE
  rw [e1, e2, ← b] at a
  have g : ∀ z (hz : z < o.out.length), tat o.out z = o.out[z] := fun z hz => by
    show o.out.getD z z_Tile = _
    rw [List.getD_eq_getElem?_getD, List.getElem?_eq_getElem hz]; rfl
  rw [g x hx, g y hy] at a
  exact (List.getElem_inj h.nd).1 a
theorem stk_valid {s : List Tile} (hv : validT s = true) {o : OnS} {L : List A2_Int} {m : Nat} (h : StkI s s o L m) (hm : m ≤ 1000) : validT o.out = true := by
  have hs := colB4_of hv
  have hc := h.cnt
  have hP := h.P
  refine (validT_iff4 _).2 ⟨by omega, h.nd, fun t ht => ?_⟩
  obtain ⟨x, hx, rfl⟩ := List.getElem_of_mem ht
  have g := stk_x h hx
  have gt : tat o.out x = o.out[x] := by
    show o.out.getD x z_Tile = _
    rw [List.getD_eq_getElem?_getD, List.getElem?_eq_getElem hx]; rfl
  have mem : ∀ i, i < s.length → tat s i ∈ s := fun i hi => by
    show s.getD i z_Tile ∈ s
    rw [List.getD_eq_getElem?_getD, List.getElem?_eq_getElem hi]; exact List.getElem_mem hi
  have hi := hs _ (mem _ g.iL)
  have hj := hs _ (mem _ g.jL)
  have hE := ixP_lt g.E
  have hW := ixP_lt g.W
  rw [← gt, g.tE]
  unfold colB inCol
  simp only [Bool.and_eq_true, decide_eq_true_eq]
  omega
theorem ways_le2 {s s' : List Tile} {w h w' h' : Nat} {e e' : Edges} (hw : 1 ≤ w ∧ w ≤ 8) (hh : 1 ≤ h) (hw' : 1 ≤ w' ∧ w' ≤ 8) (hh' : 1 ≤ h') (T : (Nat → Nat → Nat) → Nat → Nat → Nat) (hT : ∀ g, OKG s w h e g → OKG s' w' h' e' (T g)) (hi : ∀ g g', OKG s w h e g → OKG s w h e g' → (∀ y x, y < h' → x < w' → T g y x = T g' y x) → ∀ y x, y < h → x < w → g y x = g' y x) : waysN s w h e ≤ waysN s' w' h' e' := by
  rw [← fillsL_len s e hh, ← fillsL_len s' e' hh', ← List.length_map (f := fun l => mkL w' h' (T (cellL l)))]
  refine length_le_sub _ _ ?_ ?_
  · have hn := fillsL_nodup s w h e
    have key : ∀ (L : List (List (List Nat))), (∀ l ∈ L, l ∈ fillsL s w h e) → L.Nodup → (L.map fun l => mkL w' h' (T (cellL l))).Nodup := by
      intro L
      induction L with
      | nil => intro _ _; simp
      | cons a L ih =>
        intro hL hN
        obtain ⟨h1, h2⟩ := List.nodup_cons.1 hN
        rw [List.map_cons]
        refine List.nodup_cons.2 ⟨fun hm => ?_, ih (fun l hl => hL l (List.mem_cons_of_mem _ hl)) h2⟩
        obtain ⟨b, hb, he⟩ := List.mem_map.1 hm
        obtain ⟨⟨a1, a2⟩, oa⟩ := (fillsL_mem hw hh a).1 (hL a (List.mem_cons_self ..))
        obtain ⟨⟨b1, b2⟩, ob⟩ := (fillsL_mem hw hh b).1 (hL b (List.mem_cons_of_mem _ hb))
        have hc := hi (cellL b) (cellL a) ob oa fun y x hy hx => by rw [← mkL_cell w' h' (T (cellL b)) hy hx, ← mkL_cell w' h' (T (cellL a)) hy hx, he]
        have : b = a := by
          refine List.ext_getElem (by omega) fun y y1 y2 => ?_
          have r1 := a2 y (by omega)
          have r2 := b2 y (by omega)
          rw [List.getD_eq_getElem?_getD, List.getElem?_eq_getElem y2] at r1
          rw [List.getD_eq_getElem?_getD, List.getElem?_eq_getElem y1] at r2
          simp only [Option.getD_some] at r1 r2
          refine List.ext_getElem (by omega) fun x x1 x2 => ?_
          have := hc y x (by omega) (by omega)
          unfold cellL at this
          rw [List.getD_eq_getElem?_getD (l := b), List.getElem?_eq_getElem y1, List.getD_eq_getElem?_getD (l := a), List.getElem?_eq_getElem y2] at this
          simpa [List.getElem?_eq_getElem x1, List.getElem?_eq_getElem x2] using this
        exact h1 (this ▸ hb)
    exact key _ (fun l hl => hl) hn
  · intro l hl
    obtain ⟨a, ha, rfl⟩ := List.mem_map.1 hl
    obtain ⟨_, g⟩ := (fillsL_mem hw hh a).1 ha
    refine (fillsL_mem hw' hh' _).2 ⟨⟨by simp [mkL], fun y hy => by rw [mkL_row w' h' _ hy]; simp⟩, (hT _ g).congr hw'.1 hh' fun y x hy hx => mkL_cell w' h' _ hy hx⟩
theorem stk_le {s : List Tile} {o : OnS} {L : List A2_Int} {m : Nat} (h : StkI s s o L m) {n : Nat} (hn : 1 ≤ n ∧ n ≤ 8) : waysN o.out n 1 e0 ≤ waysN s n 2 e0 := by
  refine ways_le2 hn (by omega) hn (by omega) (fun g y x => if y = 0 then iX o (g 0 x) else jX o (g 0 x)) (fun g hg => ?_) (fun g g' hg hg' he y x hy hx => ?_)
  · have st : ∀ x, x < n → StX s o (g 0 x) := fun x hx => stk_x h (hg.lt 0 x (by omega) hx)
    refine ⟨fun y x hy hx => ?_, fun y x hy hx => ?_, fun y x hy hx => ?_, fun y hy => rfl, fun y hy => rfl, fun x hx => rfl, fun x hx => rfl⟩
    · split
      · exact (st x hx).iL
      · exact (st x hx).jL
    · have := ((st x (by omega)).ew (st (x + 1) hx)).1 (hg.right 0 x (by omega) hx)
      split
      · exact this.1
      · exact this.2
    · obtain rfl : y = 0 := by omega
      exact (st x hx).up
  · obtain rfl : y = 0 := by omega
    exact stk_inj h (hg.lt 0 x (by omega) hx) (hg'.lt 0 x (by omega) hx) (by simpa using he 0 x (by omega) hx) (by simpa using he 1 x (by omega) hx)
theorem stk_ge {s : List Tile} {o : OnS} {m : Nat} (h : StkI s s o (allM s s s.length 0) m) (hd : o.out.length = (allM s s s.length 0).length) {n : Nat} (hn : 1 ≤ n ∧ n ≤ 8) : waysN s n 2 e0 ≤ waysN o.out n 1 e0 := by
  have hof : o.of_ = allM s s s.length 0 := h.sub.eq_of_length (by rw [h.len]; exact hd)
  have at_ : ∀ i j : Nat, i < s.length → j < s.length → (tat s i).N = (tat s j).S → ixP ⟨(i : Int), (j : Int)⟩ o.of_ < o.out.length ∧ iX o (ixP ⟨(i : Int), (j : Int)⟩ o.of_) = i ∧ jX o (ixP ⟨(i : Int), (j : Int)⟩ o.of_) = j := fun i j hi hj hN => by
    have hm : (⟨(i : Int), (j : Int)⟩ : A2_Int) ∈ o.of_ := by
      rw [hof, mem_allM]
      exact ⟨i, j, by omega, by omega, hj, rfl, hN⟩
    have hl := ixP_lt hm
    have hg : o.of_.getD (ixP ⟨(i : Int), (j : Int)⟩ o.of_) ⟨0, 0⟩ = ⟨(i : Int), (j : Int)⟩ := by
      rw [List.getD_eq_getElem?_getD, List.getElem?_eq_getElem hl]; exact ixP_get hm
    exact ⟨by rw [← h.len]; exact hl, by unfold iX; rw [hg]; rfl, by unfold jX; rw [hg]; rfl⟩
  refine ways_le2 hn (by omega) hn (by omega) (fun g y x => ixP ⟨((g 0 x : Nat) : Int), ((g 1 x : Nat) : Int)⟩ o.of_) (fun g hg => ?_) (fun g g' hg hg' he y x hy hx => ?_)
  · have st := fun x (hx : x < n) => at_ (g 0 x) (g 1 x) (hg.lt 0 x (by omega) hx) (hg.lt 1 x (by omega) hx) (hg.up 0 x (by omega) hx)
    refine ⟨fun y x hy hx => (st x hx).1, fun y x hy hx => ?_, fun y x hy hx => by omega, fun y hy => rfl, fun y hy => rfl, fun x hx => rfl, fun x hx => rfl⟩
    obtain ⟨a1, a2, a3⟩ := st x (by omega)
    obtain ⟨b1, b2, b3⟩ := st (x + 1) hx
    refine ((stk_x h a1).ew (stk_x h b1)).2 ?_
    rw [a2, a3, b2, b3]
    exact ⟨hg.right 0 x (by omega) hx, hg.right 1 x (by omega) hx⟩
  · obtain ⟨a1, a2, a3⟩ := at_ (g 0 x) (g 1 x) (hg.lt 0 x (by omega) hx) (hg.lt 1 x (by omega) hx) (hg.up 0 x (by omega) hx)
    obtain ⟨b1, b2, b3⟩ := at_ (g' 0 x) (g' 1 x) (hg'.lt 0 x (by omega) hx) (hg'.lt 1 x (by omega) hx) (hg'.up 0 x (by omega) hx)
    have e := he 0 x (by omega) hx
    rw [e, b2] at a2
    rw [e, b3] at a3
    rcases (show y = 0 ∨ y = 1 by omega) with rfl | rfl
    · exact a2.symm
    · exact a3.symm
end Gp
set_option linter.unusedVariables false
set_option linter.unusedSimpArgs false
namespace Gp
open Gw Gq
theorem of_rd {s : List Tile} {o : OnS} {x : Nat} (h : StX s o x) : rdD o.of_ (x : Int) z_A2_Int = ⟨(iX o x : Int), (jX o x : Int)⟩ := h.pE
theorem andb {P Q R S T U : Int} (h : T = U ↔ P = Q ∧ R = S) : (if (P == Q) = true then some (R == S) else some false) = some (T == U) := by
  by_cases e : P = Q
  · rw [if_pos (by simpa using e)]
    congr 1
    rw [Bool.eq_iff_iff, beq_iff_eq, beq_iff_eq, h]
    exact ⟨fun h => ⟨e, h⟩, fun h => h.2⟩
  · rw [if_neg (by simpa using e)]
    congr 1
    have : ¬ T = U := fun h2 => e (h.1 h2).1
    exact (decide_eq_false this).symm
theorem stk_l1 {s : List Tile} (hl : s.length ≤ 4) {o : OnS} {L : List A2_Int} {m : Nat} (h : StkI s s o L m) (hm : m ≤ 1000) {X : Nat} (hX : X < o.out.length) : ∀ (d x k : Nat), x + d = X → d < k → law04_StripStacked.l1 k x s (o.out, o.of_, 0) X = some (.inr ())
  | 0, x, k, e, hk => by
    obtain ⟨k, rfl⟩ : ∃ m, k = m + 1 := ⟨k - 1, by omega⟩
    rw [law04_StripStacked.l1, if_neg (by simp; omega)]
  | d + 1, x, k, e, hk => by
    obtain ⟨k, rfl⟩ : ∃ m, k = m + 1 := ⟨k - 1, by omega⟩
    have hlen := h.len
    have hcnt := h.cnt
    have hwx : w64 ((x : Int) + 1) = ((x + 1 : Nat) : Int) := by rw [w64_id (by omega) (by omega)]; rfl
    have hx : x < o.out.length := by omega
    have gX := stk_x h hX
    have gx := stk_x h hx
    have c1 : 0 ≤ (iX o X : Int) ∧ (iX o X : Int) < (s.length : Int) := by have := gX.iL; omega
    have c2 : 0 ≤ (jX o X : Int) ∧ (jX o X : Int) < (s.length : Int) := by have := gX.jL; omega
    have c3 : 0 ≤ (iX o x : Int) ∧ (iX o x : Int) < (s.length : Int) := by have := gx.iL; omega
    have c4 : 0 ≤ (jX o x : Int) ∧ (jX o x : Int) < (s.length : Int) := by have := gx.jL; omega
    have c5 : 0 ≤ (X : Int) ∧ (X : Int) < (o.out.length : Int) := by omega
    have c6 : 0 ≤ (x : Int) ∧ (x : Int) < (o.out.length : Int) := by omega
    rw [law04_StripStacked.l1, if_pos (by simp; omega), if_pos (show 0 ≤ (x : Int) ∧ (x : Int) < (o.of_.length : Int) by omega), hwx]
    simp only [of_rd gX, of_rd gx, if_pos c1, if_pos c2, if_pos c3, if_pos c4, if_pos c5, if_pos c6, rd_tat]
    rw [andb (gX.ew gx), Option.bind_some, andb (gX.ee gx), Option.bind_some, if_neg (by simp), Option.bind_some, if_neg (by simp)]
    exact stk_l1 hl h hm hX d (x + 1) k (by omega) (by omega)
theorem stk_l0 {s : List Tile} (hl : s.length ≤ 4) {o : OnS} {L : List A2_Int} {m : Nat} (h : StkI s s o L m) (hm : m ≤ 1000) : ∀ (d X k : Nat), X + d = o.out.length → d + 1000 < k → law04_StripStacked.l0 k X s (o.out, o.of_, 0) = some (.inr ())
  | 0, X, k, e, hk => by
    obtain ⟨k, rfl⟩ : ∃ m, k = m + 1 := ⟨k - 1, by omega⟩
    have hlen := h.len
    rw [law04_StripStacked.l0, if_neg (by simp; omega)]
  | d + 1, X, k, e, hk => by
    obtain ⟨k, rfl⟩ : ∃ m, k = m + 1 := ⟨k - 1, by omega⟩
    have hlen := h.len
    have hcnt := h.cnt
    have hwx : w64 ((X : Int) + 1) = ((X + 1 : Nat) : Int) := by rw [w64_id (by omega) (by omega)]; rfl
    have hX : X < o.out.length := by omega
    have gX := stk_x h hX
    have c1 : 0 ≤ (iX o X : Int) ∧ (iX o X : Int) < (s.length : Int) := by have := gX.iL; omega
    have c2 : 0 ≤ (jX o X : Int) ∧ (jX o X : Int) < (s.length : Int) := by have := gX.jL; omega
    have c5 : 0 ≤ (X : Int) ∧ (X : Int) < (o.out.length : Int) := by omega
    have hS : (tat o.out X).S = (tat s (iX o X)).S := by rw [gX.tE]
    have hN : (tat o.out X).N = (tat s (jX o X)).N := by rw [gX.tE]
    have l1 := stk_l1 hl h hm hX X 0 k (by omega) (by omega)
    have l1 : law04_StripStacked.l1 k 0 s (o.out, o.of_, 0) X = _ := l1
    rw [law04_StripStacked.l0, if_pos (by simp; omega), if_pos (show 0 ≤ (X : Int) ∧ (X : Int) < (o.of_.length : Int) by omega), hwx]
    simp only [of_rd gX, if_pos c1, if_pos c2, if_pos c5, rd_tat]
    rw [if_neg (by simp), if_neg (by have := c1.2; simp; omega), if_neg (by simp), if_neg (by have := c2.2; simp; omega), hS, if_neg (by simp), hN, if_neg (by simp), gX.up, Option.bind_some, if_neg (by simp), l1, Option.bind_some]
    exact stk_l0 hl h hm d (X + 1) k (by omega) (by omega)
theorem rowM_len (a b : List Tile) (i : Nat) : ∀ (d j : Nat), (rowM a b i d j).length ≤ d
  | 0, j => by simp [rowM]
  | d + 1, j => by
    have := rowM_len a b i d (j + 1)
    rw [rowM, List.length_append]
    unfold matchL
    split <;> simp <;> omega
theorem dist_l1 {s : List Tile} (hl : s.length ≤ 4) {i : Nat} (hi : i < s.length) : ∀ (d j k acc : Nat), j + d = s.length → d < k → acc + d ≤ 1000 → law04_distinct.l1 k acc j s i = some (((acc + (rowM s s i d j).length : Nat)) : Int)
  | 0, j, k, acc, e, hk, ha => by
    obtain ⟨k, rfl⟩ : ∃ m, k = m + 1 := ⟨k - 1, by omega⟩
    rw [law04_distinct.l1, if_neg (by simp; omega), rowM]; rfl
  | d + 1, j, k, acc, e, hk, ha => by
    obtain ⟨k, rfl⟩ : ∃ m, k = m + 1 := ⟨k - 1, by omega⟩
    have hwx : w64 ((j : Int) + 1) = ((j + 1 : Nat) : Int) := by rw [w64_id (by omega) (by omega)]; rfl
    have hwa : w64 ((acc : Int) + 1) = ((acc + 1 : Nat) : Int) := by rw [w64_id (by omega) (by omega)]; rfl
    rw [law04_distinct.l1, if_pos (by simp; omega), if_pos (by omega), if_pos (by omega), hwx, hwa, rowM, List.length_append]
    unfold matchL
    by_cases hN : (rdD s (i : Int) z_Tile).N = (rdD s (j : Int) z_Tile).S
    · rw [if_pos (by simpa using hN), if_pos hN, Option.bind_some]
      have := dist_l1 hl hi d (j + 1) k (acc + 1) (by omega) (by omega) (by omega)
      rw [this, List.length_singleton, Nat.add_assoc]
    · rw [if_neg (by simpa using hN), if_neg hN, Option.bind_some]
      have := dist_l1 hl hi d (j + 1) k acc (by omega) (by omega) (by omega)
      rw [this, List.length_nil, Nat.zero_add]
theorem dist_l0 {s : List Tile} (hl : s.length ≤ 4) : ∀ (d i k acc : Nat), i + d = s.length → d + 10 < k → acc + 4 * d ≤ 100 → law04_distinct.l0 k acc i s = some (((acc + (allM s s d i).length : Nat)) : Int)
  | 0, i, k, acc, e, hk, ha => by
    obtain ⟨k, rfl⟩ : ∃ m, k = m + 1 := ⟨k - 1, by omega⟩
    rw [law04_distinct.l0, if_neg (by simp; omega), allM]; rfl
  | d + 1, i, k, acc, e, hk, ha => by
    obtain ⟨k, rfl⟩ : ∃ m, k = m + 1 := ⟨k - 1, by omega⟩
    have hwx : w64 ((i : Int) + 1) = ((i + 1 : Nat) : Int) := by rw [w64_id (by omega) (by omega)]; rfl
    have hr := rowM_len s s i s.length 0
    have l1 := dist_l1 hl (show i < s.length by omega) s.length 0 k acc (by omega) (by omega) (by omega)
    have l1 : law04_distinct.l1 k acc 0 s i = _ := l1
    rw [law04_distinct.l0, if_pos (by simp; omega), l1, Option.bind_some, hwx, dist_l0 hl d (i + 1) k _ (by omega) (by omega) (by omega), allM, List.length_append, Nat.add_assoc]
theorem dist_eq {s : List Tile} (hl : s.length ≤ 4) {o : OnS} (ho : onAll s s s.length 0 onZ = some o) {k : Nat} (hk : 1003100 < k) : law04_distinct k s = some (decide (o.out.length = (allM s s s.length 0).length)) := by
  have l0 := dist_l0 hl s.length 0 k 0 (by omega) (by omega) (by omega)
  have l0 : law04_distinct.l0 k 0 0 s = _ := l0
  have hm : s.length * s.length ≤ 4 * 4 := Nat.mul_le_mul hl hl
  unfold law04_distinct
  rw [l0, Option.bind_some, refOn_eq (by omega) (by omega) (by omega) hk, ho, Option.bind_some, Nat.zero_add]
  show some (true && ((o.out.length : Int) == ((allM s s s.length 0).length : Int))) = _
  congr 1
  rw [Bool.true_and, Bool.eq_iff_iff, beq_iff_eq, decide_eq_true_eq]
  exact Int.ofNat_inj
/-! rows of the stacked set, as patterns -/
theorem walk_row {s : List Tile} {to : Int} : ∀ (m : Nat) (y : Int), leadR s to m y = true → ∃ c : List Nat, walkC s to m y = c.map (fun i => ((i : Nat) : Int)) ∧ RowOK s m c ∧ (0 < m → (tat s (c.getD 0 0)).W = y)
  | 0, y, h => ⟨[], rfl, ⟨rfl, fun x hx => by omega, fun x hx => by omega⟩, fun h => by omega⟩
  | m + 1, y, h => by
    have h2 : (s.any fun t => decide (t.W = y) && leadR s to m t.E) = true := h
    cases hf : s.findIdx? fun t => decide (t.W = y) && leadR s to m t.E with
    | none => rw [idx_none.1 hf] at h2; cases h2
    | some i =>
      obtain ⟨hi, hp⟩ := findIdx_lt hf
      rw [Bool.and_eq_true, decide_eq_true_eq] at hp
      obtain ⟨c, h3, h4, h5⟩ := walk_row m s[i].E hp.2
      have ht : tat s i = s[i] := by show s.getD i z_Tile = _; rw [List.getD_eq_getElem?_getD, List.getElem?_eq_getElem hi]; rfl
      refine ⟨i :: c, ?_, ⟨by simp [h4.len], fun x hx => ?_, fun x hx => ?_⟩, fun _ => ?_⟩
      · rw [walkC, hf]
        show (i : Int) :: walkC s to m (tat s i).E = _
        rw [ht, h3]; rfl
      · cases x with
        | zero => simpa using hi
        | succ x => simpa using h4.lt x (by omega)
      · cases x with
        | zero =>
          have := h5 (by omega)
          show (tat s i).E = (tat s (c.getD 0 0)).W
          rw [ht, this]
        | succ x => simpa using h4.adj x (by omega)
      · show (tat s i).W = y
        rw [ht]; exact hp.1
end Gp
set_option linter.unusedVariables false
set_option linter.unusedSimpArgs false
namespace Gp
open Gw Gq
def cellF (o : OnS) (c : List Nat) (n x i : Nat) : Int := if i < x then (iX o (c.getD i 0) : Int) else if n ≤ i ∧ i < n + x then (jX o (c.getD (i - n) 0) : Int) else 0
theorem path_l0' {s : List Tile} {o : OnS} {L : List A2_Int} {m : Nat} (h : StkI s s o L m) {n : Nat} (hn : 1 ≤ n ∧ n ≤ 8) {c : List Nat} (hc : RowOK o.out n c) : ∀ (d x k : Nat) (l : List Int), x + d = n → d < k → l.length = n * 2 → (∀ i, i < n * 2 → l.getD i 0 = cellF o c n x i) →
    ∃ l', law04_path.l0 k l x o.of_ n (c.map (fun i => ((i : Nat) : Int)), 0) = some (.inr l') ∧ l'.length = n * 2 ∧ ∀ i, i < n * 2 → l'.getD i 0 = cellF o c n n i
  | 0, x, k, l, e, hk, hl, hi => by
    obtain ⟨k, rfl⟩ : ∃ m, k = m + 1 := ⟨k - 1, by omega⟩
    obtain rfl : x = n := by omega
    exact ⟨l, by rw [law04_path.l0, if_neg (by simp)], hl, hi⟩
  | d + 1, x, k, l, e, hk, hl, hi => by
    obtain ⟨k, rfl⟩ : ∃ m, k = m + 1 := ⟨k - 1, by omega⟩
    have hwx : w64 ((x : Int) + 1) = ((x + 1 : Nat) : Int) := by rw [w64_id (by omega) (by omega)]; rfl
    have hwn : w64 ((n : Int) + (x : Int)) = ((n + x : Nat) : Int) := by rw [w64_id (by omega) (by omega)]; rfl
    have hlc := hc.len
    have hcx := hc.lt x (by omega)
    have g := stk_x h hcx
    have hlen := h.len
    have hx : x < (c.map (fun i => ((i : Nat) : Int))).length := by simp; omega
    have hget : rdD (c.map (fun i => ((i : Nat) : Int))) (x : Int) 0 = ((c.getD x 0 : Nat) : Int) := by
      have h2 : x < c.length := by omega
      rw [rdD_get hx, List.getElem_map, List.getD_eq_getElem?_getD, List.getElem?_eq_getElem h2]; rfl
    have k1 : ((((c.map (fun i => ((i : Nat) : Int))).length : Int) != (n : Int)) = true) = False := by
      rw [List.length_map, hlc]; simp
    have c1 : 0 ≤ (x : Int) ∧ (x : Int) < ((c.map (fun i => ((i : Nat) : Int))).length : Int) := by omega
    have c2 : 0 ≤ ((c.getD x 0 : Nat) : Int) ∧ ((c.getD x 0 : Nat) : Int) < (o.of_.length : Int) := by omega
    have c3 : 0 ≤ (x : Int) ∧ (x : Int) < (l.length : Int) := by omega
    obtain ⟨l', e1, e2, e3⟩ := path_l0' h hn hc d (x + 1) k ((l.set x (iX o (c.getD x 0) : Int)).set (n + x) (jX o (c.getD x 0) : Int)) (by omega) (by omega) (by simp [hl]) (fun i hi2 => by
      rw [List.getD_eq_getElem?_getD, List.getElem?_set, List.getElem?_set]
      unfold cellF
      by_cases h1 : n + x = i
      · rw [if_pos h1, if_pos (by simp; omega), if_neg (by omega), if_pos (by omega), show i - n = x by omega]; rfl
      · rw [if_neg h1]
        by_cases h2 : x = i
        · rw [if_pos h2, if_pos (by omega), if_pos (by omega), h2]; rfl
        · have := hi i hi2
          unfold cellF at this
          rw [if_neg h2, ← List.getD_eq_getElem?_getD, this]
          repeat' split
          all_goals first | rfl | (exfalso; omega))
    refine ⟨l', ?_, e2, e3⟩
    rw [law04_path.l0, if_pos (by simp; omega)]
    simp only [k1, if_false, if_pos c1, hget, Option.bind_some]
    rw [decide_eq_false (show ¬ ((c.getD x 0 : Nat) : Int) < 0 by omega), if_neg (by simp), Option.bind_some, decide_eq_false (show ¬ ((c.getD x 0 : Nat) : Int) ≥ (o.of_.length : Int) by omega), if_neg (by simp), if_pos c2, if_pos c3, of_rd g, hwn, hwx]
    rw [if_pos (by rw [List.length_set]; omega)]
    exact e1
theorem two_rows {s : List Tile} (hv : validT s = true) {o : OnS} {L : List A2_Int} {m : Nat} (h : StkI s s o L m) {n : Nat} (hn : 1 ≤ n ∧ n ≤ 8) {c : List Nat} (hc : RowOK o.out n c) {l : List Int} (hl : l.length = n * 2) (hi : ∀ i, i < n * 2 → l.getD i 0 = cellF o c n n i) {k : Nat} (hk : 40001 ≤ k) : tile_Fits k s ⟨n, 2, l⟩ = some true := by
  have el : l = grid n 2 (fun y x => if y = 0 then (iX o (c.getD x 0) : Int) else (jX o (c.getD x 0) : Int)) := grid_ext (by omega) (fun y x hy hx => by
    rcases (show y = 0 ∨ y = 1 by omega) with rfl | rfl
    · rw [hi _ (by omega), Nat.zero_mul, Nat.zero_add, if_pos rfl]
      unfold cellF
      rw [if_pos hx]
    · rw [hi _ (by omega), Nat.one_mul, if_neg (by omega)]
      unfold cellF
      rw [if_neg (by omega), if_pos (by omega), show n + x - n = x by omega])
  have st : ∀ x, x < n → StX s o (c.getD x 0) := fun x hx => stk_x h (hc.lt x hx)
  have ht : ∀ y x, TT s (fun y x => if y = 0 then (iX o (c.getD x 0) : Int) else (jX o (c.getD x 0) : Int)) y x = if y = 0 then tat s (iX o (c.getD x 0)) else tat s (jX o (c.getD x 0)) := fun y x => by
    show tat s (if y = 0 then (iX o (c.getD x 0) : Int) else (jX o (c.getD x 0) : Int)).toNat = _
    by_cases h0 : y = 0
    · rw [if_pos h0, if_pos h0]; rfl
    · rw [if_neg h0, if_neg h0]; rfl
  have := fitsG (s := s) (W := n) (H := 2) (c := fun y x => if y = 0 then (iX o (c.getD x 0) : Int) else (jX o (c.getD x 0) : Int)) hv (by omega) (by omega) (by omega) (fun y x hy hx => by
    have := st x hx
    have h1 := this.iL
    have h2 := this.jL
    split <;> omega) ⟨fun y x hy hx hr => ?_, fun y x hy hx hr => ?_⟩ hk
  · rw [el]; exact this
  · have hx2 : x + 1 < n := by simpa using hr
    have := ((st x hx).ew (st (x + 1) hx2)).1 (hc.adj x hx2)
    rw [ht, ht, Nat.mod_eq_of_lt hx2]
    split
    · exact this.1
    · exact this.2
  · have hy2 : y + 1 < 2 := by simpa using hr
    obtain rfl : y = 0 := by omega
    rw [ht, ht, Nat.mod_eq_of_lt hy2, if_pos rfl, if_neg (by omega)]
    exact (st x hx).up
theorem path04_eq {s : List Tile} (hv : validT s = true) {o : OnS} {L : List A2_Int} {m : Nat} (h : StkI s s o L m) (hm : m ≤ 1000) (hvT : validT o.out = true) {n : Nat} (hn : 1 ≤ n ∧ n ≤ 8) {a b : Int} (ha : 0 ≤ a) (hb : 0 ≤ b) {k : Nat} (hk : 50000 < k) : law04_path k s o.out o.of_ a b n = some true := by
  have hcnt := h.cnt
  unfold law04_path
  by_cases h0 : o.out.length = 0
  · rw [if_pos (by simp [h0])]
  have hpos : 0 < o.out.length := by omega
  obtain ⟨a, rfl⟩ : ∃ m : Nat, a = m := ⟨a.toNat, by omega⟩
  obtain ⟨b, rfl⟩ : ∃ m : Nat, b = m := ⟨b.toNat, by omega⟩
  have ea : Int.tmod (a : Int) (o.out.length : Int) = ((a % o.out.length : Nat) : Int) := rfl
  have eb : Int.tmod (b : Int) (o.out.length : Int) = ((b % o.out.length : Nat) : Int) := rfl
  have la := Nat.mod_lt a hpos
  have lb := Nat.mod_lt b hpos
  rw [if_neg (by rw [beq_iff_eq]; omega), if_pos (show (o.out.length : Int) ≠ 0 by omega), ea, eb, if_pos (show 0 ≤ ((a % o.out.length : Nat) : Int) ∧ ((a % o.out.length : Nat) : Int) < (o.out.length : Int) by omega), if_pos (show 0 ≤ ((b % o.out.length : Nat) : Int) ∧ ((b % o.out.length : Nat) : Int) < (o.out.length : Int) by omega), path_eq hvT _ _ (by omega) (by omega), Option.bind_some]
  cases hb : leadR o.out (rdD o.out ((b % o.out.length : Nat) : Int) z_Tile).E n (rdD o.out ((a % o.out.length : Nat) : Int) z_Tile).W
  · rfl
  · obtain ⟨c, h1, h2, _⟩ := walk_row _ _ hb
    have hbl : ref01_Blank (n : Int) 2 = some ⟨(n : Int), 2, List.replicate (n * 2) 0⟩ := blank01 (W := n) (H := 2) (by omega)
    obtain ⟨l', e1, e2, e3⟩ := path_l0' h hn h2 n 0 k (List.replicate (n * 2) 0) (by omega) (by omega) (by simp) (fun i hi => by
      unfold cellF
      rw [if_neg (by omega), if_neg (by omega)]
      simp [List.getD_eq_getElem?_getD, List.getElem?_replicate, hi])
    have e1 : law04_path.l0 k (List.replicate (n * 2) 0) 0 o.of_ n (c.map (fun i => ((i : Nat) : Int)), 0) = _ := e1
    rw [if_pos rfl, h1, if_neg (by simp), hbl, Option.bind_some]
    show (law04_path.l0 k (List.replicate (n * 2) 0) 0 o.of_ n (c.map (fun i => ((i : Nat) : Int)), 0)).bind _ = _
    rw [e1, Option.bind_some]
    show (tile_Fits k s ⟨(n : Int), 2, l'⟩).bind _ = _
    rw [two_rows hv h hn h2 e2 e3 (by omega)]; rfl
end Gp
set_option linter.unusedVariables false
set_option linter.unusedSimpArgs false
namespace Gp
open Gw Gq
theorem sm_const {α : Type} (l : List α) (c : Nat) : sm l (fun _ => c) = l.length * c := by
  induction l with
  | nil => simp [sm]
  | cons a l ih => rw [sm_cons, ih, List.length_cons, Nat.add_mul]; omega
theorem upC_le {α κ : Type} [DecidableEq κ] (B : List α) (S N : α → κ) (ft : α → Nat → Bool) (h : Nat) : ∀ (n : Nat) (x : κ), upC B S N ft h n x ≤ B.length ^ n
  | 0, x => by rw [upC]; simp
  | n + 1, x => by
    rw [upC, Nat.pow_succ, Nat.mul_comm, ← sm_const]
    refine sm_le fun c _ => ?_
    split
    · exact upC_le B S N ft h n _
    · omega
theorem ways_pow (s : List Tile) {w h : Nat} (e : Edges) (hh : 1 ≤ h) : waysN s w h e ≤ (s.length ^ w) ^ h := by
  have hl : (rowsL s w []).length ≤ s.length ^ w := by
    have := allR_len s w
    unfold allR at this
    rwa [List.length_map] at this
  unfold waysN
  rw [tot_up _ _ _ _ hh]
  have h1 : (sm (rowsL s w []) fun c => if fitC s w h e c 0 = true then upC (rowsL s w []) (sideS s) (sideN s) (fitC s w h e) h (h - 1) (sideN s c) else 0) ≤ (rowsL s w []).length ^ h := by
    obtain ⟨h, rfl⟩ : ∃ m, h = m + 1 := ⟨h - 1, by omega⟩
    rw [Nat.pow_succ, Nat.mul_comm, ← sm_const]
    refine sm_le fun c _ => ?_
    split
    · exact upC_le _ _ _ _ _ _ _
    · omega
  exact Nat.le_trans h1 (Nat.pow_le_pow_left hl h)
theorem count_e0 {s : List Tile} (hv : validT s = true) {n h : Nat} (hn : 1 ≤ n ∧ n ≤ 8) (hh : 1 ≤ h ∧ h ≤ 2) (hf : fewB s.length n = true) {k : Nat} (hk : 10000 < k) : fill_Count k s n h e0 = some (((waysN s n h e0 : Nat) : Int), 0) := by
  have hp := max_pow hf
  have hb : waysN s n h e0 ≤ 1152921504606846976 := by
    refine Nat.le_trans (ways_pow s e0 hh.1) ?_
    refine Nat.le_trans (Nat.pow_le_pow_left hp h) ?_
    refine Nat.le_trans (Nat.pow_le_pow_right (by omega) hh.2) (by decide)
  rw [count_ok s n h e0 hv hn (by omega) (e0_sides _ _) hf hk]
  unfold countX
  rw [if_pos hb]
theorem law04_StripStacked_pure : ∀ (p0 : List Tile) (p1 : Int) (p2 : Int) (p3 : Int), ((∀ x ∈ p0, ok_Tile x) ∧ p0.length ≤ Go.maxLen) → ((Go.Lit.int .u8 p1).wf = true) → ((Go.Lit.int .u8 p2).wf = true) → ((Go.Lit.int .u8 p3).wf = true) → ∃ k, law04_StripStacked k p0 p1 p2 p3 = some true := by
  intro s p1 p2 p3 hs h1 h2 h3
  have u8 : ∀ p : Int, (Go.Lit.int .u8 p).wf = true → 0 ≤ w64 p := fun p hp => by
    have : (decide (0 ≤ p) && decide (p ≤ 255)) = true := hp
    simp at this
    rw [w64_id (by omega) (by omega)]; omega
  have h2 := u8 p2 h2
  have h3 := u8 p3 h3
  have hl : s.length ≤ 9223372036854775807 := hs.2
  obtain ⟨n, en, n1, n6⟩ := step6 p1 h1
  refine ⟨2000000, ?_⟩
  have aw : law04_awake 2000000 = some true := awake04_ok 1998700
  unfold law04_StripStacked
  rw [en]
  by_cases h4 : (s.length : Int) > 4
  · rw [if_pos (decide_eq_true h4), Option.bind_some, if_pos rfl, Option.bind_some, if_pos rfl, aw]; rfl
  rw [if_neg (by simpa using h4), valid01 s (by omega) hl, Option.bind_some, Option.bind_some]
  cases hv : validT s
  · rw [if_pos (by simp), Option.bind_some, if_pos rfl, aw]; rfl
  rw [if_neg (by simp), light_some s (by omega) (by omega) (by omega), Option.bind_some, Option.bind_some]
  split
  · rw [aw]; rfl
  obtain ⟨o, ho, hst⟩ := stk_self (s := s) (by omega)
  have hvT := stk_valid hv hst (by omega)
  have hlen := hst.len
  have hcnt := hst.cnt
  have hon : strip_On 2000000 s s = some (o.out, o.of_, 0) := by rw [on_eq hv hv (by omega), ho]
  have l0 := stk_l0 (by omega) hst (by omega) o.out.length 0 2000000 (by omega) (by omega)
  have l0 : law04_StripStacked.l0 2000000 0 s (o.out, o.of_, 0) = _ := l0
  have hpow : (max s.length 1) ^ n ≤ 4 ^ 6 := Nat.le_trans (Nat.pow_le_pow_left (show max s.length 1 ≤ 4 by omega) n) (Nat.pow_le_pow_right (by omega) n6)
  have hfew : fewB s.length n = true := decide_eq_true (Nat.le_trans hpow (by decide))
  have hc2 : fill_Count 2000000 s n 2 (Edges.mk [] [] [] []) = some (((waysN s n 2 e0 : Nat) : Int), 0) := count_e0 hv (h := 2) (by omega) (by omega) hfew (by omega)
  rw [hon, Option.bind_some]
  show ((if (((0 : Int) != 0) || ((o.out.length : Int) != (o.of_.length : Int))) = true then some true else ((ref01_Valid 2000000 o.out).bind fun t => some (!t))).bind fun x => _) = _
  rw [hlen, if_neg (by simp), valid01 o.out (by omega) (by omega), hvT, Option.bind_some, Option.bind_some, if_neg (by simp), l0, Option.bind_some]
  show (fill_Count 2000000 s n 2 (Edges.mk [] [] [] [])).bind _ = _
  rw [hc2, Option.bind_some]
  obtain ⟨v, e1, e2⟩ : ∃ v, (if (((0 : Int) != 0) || decide ((o.out.length : Int) > 12)) = true then some true else ((ref02_Light 2000000 o.out n).bind fun t => some (!t))) = some v ∧ (v = false → o.out.length ≤ 12) := by
    by_cases h12 : (o.out.length : Int) > 12
    · exact ⟨true, by rw [if_pos (by rw [decide_eq_true h12]; rfl)], fun h => by cases h⟩
    · rw [if_neg (by rw [decide_eq_false h12]; decide), light_some o.out (by omega) (by omega) (by omega)]
      exact ⟨_, rfl, fun _ => by omega⟩
  obtain ⟨v2, e3, e4⟩ : ∃ v2, (if v = true then some true else ((ref02_Great 2000000 o.out n).bind fun t => some t)) = some v2 ∧ (v2 = false → fewB o.out.length n = true) := by
    cases v
    · rw [if_neg (by decide), great_eq o.out (by omega) (by omega) (by omega)]
      exact ⟨_, rfl, fun h => by simpa using h⟩
    · exact ⟨true, rfl, fun h => by cases h⟩
  show ((if (((0 : Int) != 0) || decide ((o.out.length : Int) > 12)) = true then some true else ((ref02_Light 2000000 o.out n).bind fun t => some (!t))).bind fun x => (if x = true then some true else ((ref02_Great 2000000 o.out n).bind fun t => some t)).bind fun x => if x = true then ((if ((0 : Int) == 0) = true then ((law04_awake 2000000).bind fun t => some t) else some false).bind fun x => some x) else ((fill_Count 2000000 o.out n 1 (Edges.mk [] [] [] [])).bind fun t => _)) = _
  rw [e1, Option.bind_some, e3, Option.bind_some]
  cases v2
  rotate_left
  · rw [if_pos rfl, if_pos (by decide), aw]; rfl
  have hf2 := e4 rfl
  have hc1 : fill_Count 2000000 o.out n 1 (Edges.mk [] [] [] []) = some (((waysN o.out n 1 e0 : Nat) : Int), 0) := count_e0 hvT (h := 1) (by omega) (by omega) hf2 (by omega)
  have hle := stk_le hst (n := n) (by omega)
  have hp := path04_eq hv hst (by omega) hvT (n := n) (by omega) h2 h3 (k := 2000000) (by omega)
  rw [if_neg (by decide), hc1, Option.bind_some]
  show ((if ((0 : Int) != 0) = true then some true else ((law04_distinct 2000000 s).bind fun t => some (t && (((waysN o.out n 1 e0 : Nat) : Int) != ((waysN s n 2 e0 : Nat) : Int))))).bind fun x => if (x || decide (((waysN o.out n 1 e0 : Nat) : Int) > ((waysN s n 2 e0 : Nat) : Int))) = true then some false else ((law04_path 2000000 s o.out o.of_ (w64 p2) (w64 p3) n).bind fun t => (if t = true then ((law04_awake 2000000).bind fun t => some t) else some false).bind fun x => some x)) = _
  rw [if_neg (by decide), dist_eq (by omega) ho (by omega), Option.bind_some, Option.bind_some]
  have hd : (decide (o.out.length = (allM s s s.length 0).length) && (((waysN o.out n 1 e0 : Nat) : Int) != ((waysN s n 2 e0 : Nat) : Int))) = false := by
    by_cases he : o.out.length = (allM s s s.length 0).length
    · have hge := stk_ge hst he (n := n) (by omega)
      have : waysN o.out n 1 e0 = waysN s n 2 e0 := by omega
      rw [this]; simp
    · rw [decide_eq_false he, Bool.false_and]
  rw [hd, Bool.false_or, if_neg (by simp; omega), hp, Option.bind_some, if_pos rfl, aw]; rfl
end Gp
