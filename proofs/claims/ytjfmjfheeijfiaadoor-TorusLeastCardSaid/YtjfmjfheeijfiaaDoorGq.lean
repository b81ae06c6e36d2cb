/- The plain law: what the functions compute answers as the statement says. -/
import Derived.Test.YtjfmjfheeijfiaaDoorGp
import Derived.KernelRfl
set_option linter.unusedVariables false
set_option linter.unusedSimpArgs false
namespace Gq
open Go Gw Gp
/-! ### numbers and lists -/
theorem w64_id {n : Int} (h0 : -9223372036854775808 ≤ n) (h1 : n ≤ 9223372036854775807) : w64 n = n := by
  show IntKind.i64.wrap n = n
  have e : IntKind.i64.wrap n = if (true && decide (n % 18446744073709551616 ≥ 9223372036854775808)) = true then n % 18446744073709551616 - 18446744073709551616 else n % 18446744073709551616 := rfl
  rw [e]
  simp only [Bool.true_and, decide_eq_true_eq]
  split <;> omega
theorem rdD_nat {α : Type} (xs : List α) (i : Nat) (d : α) : rdD xs (i : Int) d = xs.getD i d := by simp [rdD]
theorem rdD_get {α : Type} {xs : List α} {i : Nat} (h : i < xs.length) (d : α) : rdD xs (i : Int) d = xs[i] := by
  simp [rdD, List.getD, List.getElem?_eq_getElem h]
def firstS {α β : Type} (g : Nat → α → Option β) : Nat → List α → Option β
  | _, [] => none
  | i, a :: r => match g i a with
    | some b => some b
    | none => firstS g (i + 1) r
def fin {β : Type} : Option β → Sum β Unit
  | some b => .inl b
  | none => .inr ()
theorem scan {α β : Type} {F : Nat → Int → Option (Sum β Unit)} {xs : List α} {g : Nat → α → Option β}
    (hF : ∀ k (i : Nat), i ≤ xs.length → F (k + 1) (i : Int) = if h : i < xs.length then (match g i xs[i] with | some b => some (.inl b) | none => F k ((i + 1 : Nat) : Int)) else some (.inr ())) :
    ∀ (n k i : Nat), i + n = xs.length → n < k → F k (i : Int) = some (fin (firstS g i (xs.drop i)))
  | 0, k, i, hi, hk => by
    obtain ⟨k, rfl⟩ : ∃ m, k = m + 1 := ⟨k - 1, by omega⟩
    have hi : i = xs.length := by omega
    subst hi
    rw [hF k _ (Nat.le_refl _), dif_neg (Nat.lt_irrefl _), List.drop_length]; rfl
  | n + 1, k, i, hi, hk => by
    obtain ⟨k, rfl⟩ : ∃ m, k = m + 1 := ⟨k - 1, by omega⟩
    have hlt : i < xs.length := by omega
    rw [hF k i (by omega), dif_pos hlt, List.drop_eq_getElem_cons hlt, firstS]
    cases hg : g i xs[i] with
    | some b => rfl
    | none => exact scan hF n k (i + 1) (by omega) (by omega)
end Gq
set_option linter.unusedVariables false
set_option linter.unusedSimpArgs false
namespace Gq
theorem flat_succ {α : Type} (f : Nat → List α) (n : Nat) : (List.range (n + 1)).flatMap f = (List.range n).flatMap f ++ f n := by
  rw [List.range_succ, List.flatMap_append]; simp
theorem map_succ {α : Type} (f : Nat → α) (n : Nat) : (List.range (n + 1)).map f = (List.range n).map f ++ [f n] := by
  rw [List.range_succ, List.map_append]; simp
end Gq
namespace Gp
open Gw Gq
/-! ### the tiles of a machine -/
def hd (Y q s : Nat) : Int := ((Y + q * Y + s : Nat) : Int)
end Gp
set_option linter.unusedVariables false
set_option linter.unusedSimpArgs false
namespace Gq
theorem flat_get {α : Type} {f : Nat → List α} : ∀ {n q j : Nat} {t : α}, q < n → (f q)[j]? = some t → ((List.range n).flatMap f)[((List.range q).flatMap f).length + j]? = some t
  | 0, q, j, t, h, _ => by omega
  | n + 1, q, j, t, h, hj => by
    rw [flat_succ, List.getElem?_append]
    by_cases hq : q < n
    · have := flat_get (n := n) hq hj
      rw [if_pos (by by_cases hl : ((List.range q).flatMap f).length + j < ((List.range n).flatMap f).length
                     · exact hl
                     · rw [List.getElem?_eq_none (by omega)] at this; cases this)]
      exact this
    · have : q = n := by omega
      subst this
      rw [if_neg (by omega), show ((List.range q).flatMap f).length + j - ((List.range q).flatMap f).length = j by omega]; exact hj
theorem flat_len {α : Type} {f : Nat → List α} {b : Nat} (hf : ∀ i, (f i).length = b) : ∀ n, ((List.range n).flatMap f).length = n * b
  | 0 => by simp
  | n + 1 => by
    rw [flat_succ, List.length_append, Nat.add_mul, Nat.one_mul, flat_len hf n, hf n]
end Gq
namespace Gp
open Gw Gq
/-! ### where the tiles of a machine lie -/
end Gp
set_option linter.unusedVariables false
set_option linter.unusedSimpArgs false
namespace Gp
open Gw Gq
/-! ### the tile that shows a cell of a step -/
theorem Tile.ext' {a b : Tile} (h1 : a.N = b.N) (h2 : a.E = b.E) (h3 : a.S = b.S) (h4 : a.W = b.W) : a = b := by
  cases a; cases b; simp only at h1 h2 h3 h4; subst h1 h2 h3 h4; rfl
end Gp
set_option linter.unusedVariables false
set_option linter.unusedSimpArgs false
namespace Gq
theorem loop_all {σ ρ τ : Type} {F : Nat → Int → σ → Option (Sum ρ τ)} {S : Nat → σ} {b : Nat → Bool} {n K : Nat} {r : ρ} {e : τ} (hs : ∀ k i, K ≤ k → i < n → F (k + 1) (i : Int) (S i) = if b i = true then F k ((i + 1 : Nat) : Int) (S (i + 1)) else some (.inl r)) (he : ∀ k, F (k + 1) (n : Int) (S n) = some (.inr e)) :
    ∀ k, n + K < k → F k 0 (S 0) = some (if (List.range n).all b = true then .inr e else .inl r) := by
  have key : ∀ d i k, i + d = n → d + K < k → F k (i : Int) (S i) = some (if (List.range' i d).all b = true then .inr e else .inl r) := by
    intro d
    induction d with
    | zero =>
      intro i k hi hk
      obtain ⟨k, rfl⟩ : ∃ m, k = m + 1 := ⟨k - 1, by omega⟩
      have : i = n := by omega
      subst this; rw [he]; rfl
    | succ d ih =>
      intro i k hi hk
      obtain ⟨k, rfl⟩ : ∃ m, k = m + 1 := ⟨k - 1, by omega⟩
      rw [hs k i (by omega) (by omega), List.range'_succ, List.all_cons]
      cases hb : b i
      · rfl
      · rw [if_pos rfl, ih (i + 1) k (by omega) (by omega)]; rfl
  intro k hk
  rw [List.range_eq_range']
  exact key n 0 k (by omega) hk
theorem firstS_ge' {α : Type} {p : α → Bool} : ∀ (xs : List α) (i : Nat), (match firstS (fun i a => if p a = true then none else some (i : Int)) i xs with
    | some x => decide (0 ≤ x)
    | none => false) = !xs.all p
  | [], i => rfl
  | a :: r, i => by
    rw [firstS]
    cases h : p a
    · simp [h]
    · simp only [if_true, List.all_cons, h, Bool.true_and]
      exact firstS_ge' r (i + 1)
end Gq
namespace Gp
open Gw Gq
/-! ### sets of tiles and patterns -/
def inCol (c : Int) : Bool := decide (0 ≤ c ∧ c < 1000)
def colB (t : Tile) : Bool := inCol t.N && inCol t.E && inCol t.S && inCol t.W
theorem idx_col (xs : List Int) (hl : xs.length ≤ 1000000) (k : Nat) (hk : xs.length < k) :
    slices_IndexFunc_int_int_with_tile_colour_1.l0 k 0 xs = some (fin (firstS (fun i a => if inCol a = true then none else some (i : Int)) 0 xs)) := by
  have := scan (F := fun k i => slices_IndexFunc_int_int_with_tile_colour_1.l0 k i xs) (xs := xs) (g := fun i a => if inCol a = true then none else some (i : Int)) (fun k i hi => by
    show slices_IndexFunc_int_int_with_tile_colour_1.l0 (k + 1) i xs = _
    rw [slices_IndexFunc_int_int_with_tile_colour_1.l0]
    by_cases h : i < xs.length
    · have h' : (i : Int) < (xs.length : Int) := by omega
      have h2 : 0 ≤ (i : Int) ∧ (i : Int) < (xs.length : Int) := by omega
      rw [dif_pos h, if_pos (by simpa using h'), if_pos h2, rdD_get h, tile_colour_1, w64_id (by omega) (by omega)]
      by_cases hb : 0 ≤ xs[i] ∧ xs[i] < 1000
      · have h3 : ¬ (xs[i] < 0 ∨ 1000 ≤ xs[i]) := by omega
        simp [inCol, hb]
        intro hh; exact absurd hh h3
      · have h3 : (xs[i] < 0 ∨ 1000 ≤ xs[i]) := by omega
        simp [inCol, hb, h3]
    · have h' : ¬ (i : Int) < (xs.length : Int) := by omega
      rw [dif_neg h, if_neg (by simpa using h')]) xs.length k 0 (by simp) hk
  simpa using this
theorem colour_eq (xs : List Int) (hl : xs.length ≤ 1000000) (k : Nat) (hk : xs.length < k) : tile_colour k xs = some (xs.all inCol) := by
  unfold tile_colour slices_ContainsFunc_int_int_with_tile_colour_1 slices_IndexFunc_int_int_with_tile_colour_1
  rw [idx_col xs hl k hk]
  have := firstS_ge' (p := inCol) xs 0
  cases hf : firstS (fun i a => if inCol a = true then none else some (i : Int)) 0 xs <;> rw [hf] at this <;> cases ha : xs.all inCol <;> rw [ha] at this <;> simp [fin, sumb] at this ⊢
  · exact this
  · exact this
def metS (set : List Tile) (i : Nat) : List (Tile × Bool) := (set.take i).map fun t => (t, true)
theorem mget_met (t : Tile) : ∀ l : List Tile, mget t false (l.map fun t => (t, true)) = decide (t ∈ l)
  | [] => rfl
  | a :: r => by
    simp only [List.map_cons, mget]
    by_cases h : t = a
    · simp [h]
    · rw [if_neg h, mget_met t r]; simp [h]
theorem mput_met (t : Tile) : ∀ l : List Tile, t ∉ l → mput t true (l.map fun t => (t, true)) = (l.map fun t => (t, true)) ++ [(t, true)]
  | [], _ => rfl
  | a :: r, h => by
    simp only [List.mem_cons, not_or] at h
    simp only [List.map_cons, mput, if_neg h.1, mput_met t r h.2, List.cons_append]
def newB (set : List Tile) (i : Nat) : Bool := !decide (set.getD i z_Tile ∈ set.take i) && colB (set.getD i z_Tile)
def validT (set : List Tile) : Bool := decide (set.length ≤ 1000) && (List.range set.length).all (newB set)
theorem tile_valid (set : List Tile) {k : Nat} (hk : 1006 ≤ k) (hl : set.length ≤ 9223372036854775807) : tile_Valid k set = some (validT set) := by
  unfold tile_Valid validT
  by_cases hb : set.length ≤ 1000
  · rw [if_neg (by simp; omega)]
    have := loop_all (F := fun k i (m : List (Tile × Bool)) => tile_Valid.l0 k m i set) (S := metS set) (b := newB set) (n := set.length) (K := 5) (r := false) (e := ()) (fun k i hk hi => by
      show tile_Valid.l0 (k + 1) (metS set i) i set = if newB set i = true then tile_Valid.l0 k (metS set (i + 1)) ((i + 1 : Nat) : Int) set else _
      rw [tile_Valid.l0, if_pos (by simpa using hi), if_pos (by omega), rdD_nat, metS, mget_met]
      have ht : set.getD i z_Tile = set[i] := by simp [List.getElem?_eq_getElem hi]
      unfold newB
      by_cases hm : set.getD i z_Tile ∈ set.take i
      · rw [if_pos (by simpa using hm), show decide (set.getD i z_Tile ∈ set.take i) = true from decide_eq_true hm]; rfl
      · rw [if_neg (by simpa using hm), colour_eq _ (by simp) k (by simp; omega), Option.bind_some, Option.bind_some]
        have hc : ([(set.getD i z_Tile).N, (set.getD i z_Tile).E, (set.getD i z_Tile).S, (set.getD i z_Tile).W].all inCol) = colB (set.getD i z_Tile) := by simp [colB, Bool.and_assoc]
        rw [hc]
        cases hcb : colB (set.getD i z_Tile)
        · simp
        · rw [mput_met _ _ hm, w64_id (by omega) (by omega)]
          simp only [hm, Bool.not_true, Bool.false_eq_true, if_false, decide_false, Bool.not_false, Bool.and_self, if_true]
          unfold metS
          rw [List.take_add_one, List.map_append, List.getElem?_eq_getElem hi, ht]; rfl) (fun k => by
      show tile_Valid.l0 (k + 1) (metS set set.length) set.length set = _
      rw [tile_Valid.l0, if_neg (by simp)]) k (by omega)
    have h0 : tile_Valid.l0 k [] 0 set = some (if (List.range set.length).all (newB set) = true then .inr () else .inl false) := this
    rw [h0]
    cases (List.range set.length).all (newB set) <;> simp [sumb, hb]
  · rw [if_pos (by simp; omega)]; simp [hb]
def formB (p : Pattern) : Bool := decide (1 ≤ p.Width ∧ 1 ≤ p.Height ∧ p.Width ≤ 40000 ∧ p.Height ≤ 40000 ∧ p.Width * p.Height ≤ 40000 ∧ (p.Cells.length : Int) = p.Width * p.Height)
def inSet (n : Nat) (c : Int) : Bool := decide (0 ≤ c ∧ c < (n : Int))
def ofB (set : List Tile) (p : Pattern) : Bool := validT set && formB p && p.Cells.all (inSet set.length)
structure PForm (set : List Tile) (p : Pattern) (W H : Nat) : Prop where
  w : p.Width = W
  h : p.Height = H
  dW : 1 ≤ W ∧ W ≤ 40000
  dH : 1 ≤ H ∧ H ≤ 40000
  wh : H * W ≤ 40000
  len : p.Cells.length = H * W
  cel : ∀ j, j < H * W → 0 ≤ p.Cells.getD j 0 ∧ p.Cells.getD j 0 < (set.length : Int)
theorem place_lt {W H x y : Nat} (hx : x < W) (hy : y < H) : y * W + x < H * W := by
  have := Nat.mul_le_mul_right W (show y + 1 ≤ H by omega)
  rw [Nat.succ_mul] at this; omega
end Gp
set_option linter.unusedVariables false
set_option linter.unusedSimpArgs false
namespace Gp
open Gw Gq
/-! ### the pictures are patterns of the tiles -/
theorem PForm.of {set : List Tile} {p : Pattern} {W H : Nat} (f : PForm set p W H) (hv : validT set = true) : ofB set p = true := by
  unfold ofB formB
  have h1 := f.dW; have h2 := f.dH; have h3 := f.wh
  have e : p.Width * p.Height = ((H * W : Nat) : Int) := by rw [f.w, f.h, Int.natCast_mul, Int.mul_comm]
  rw [hv, e, f.w, f.h, f.len]
  simp only [Bool.true_and, Bool.and_eq_true, decide_eq_true_eq, List.all_eq_true]
  refine ⟨⟨by omega, by omega, by omega, by omega, by omega, trivial⟩, fun a ha => ?_⟩
  obtain ⟨j, hj, he⟩ := List.mem_iff_getElem.1 ha
  have := f.cel j (by rw [← f.len]; exact hj)
  rw [show p.Cells.getD j 0 = p.Cells[j] from by simp [List.getElem?_eq_getElem hj], he] at this
  unfold inSet; exact decide_eq_true this
end Gp
set_option linter.unusedVariables false
set_option linter.unusedSimpArgs false
namespace Gq
end Gq
namespace Gp
open Gw Gq
/-! ### the patterns of the statements' own reference -/
end Gp
set_option linter.unusedVariables false
set_option linter.unusedSimpArgs false
namespace Gp
open Gw Gq
end Gp
set_option linter.unusedVariables false
set_option linter.unusedSimpArgs false
namespace Gp
open Gw Gq
/-! ### a torus, repeated -/
end Gp
set_option linter.unusedVariables false
set_option linter.unusedSimpArgs false
namespace Gp
open Gw Gq
/-! ### the first layer's reference -/
theorem colour01 (c : Int) : ref01_colour c = some (inCol c) := by
  unfold ref01_colour inCol
  by_cases h : 0 ≤ c ∧ c < 1000
  · simp [h]
  · rw [decide_eq_false h]
    congr 1
    cases h1 : decide (c ≥ 0)
    · rfl
    · have : ¬ c < 1000 := fun h2 => h ⟨by simpa using h1, h2⟩
      simp [this]
theorem index01 {set : List Tile} (hl : set.length ≤ 1000000) (t : Tile) {k : Nat} (hk : set.length < k) : ∃ r : Int, ref01_Index k set t = some r ∧ decide (r ≥ 0) = decide (t ∈ set) := by
  have := scan (F := fun k i => ref01_Index.l0 k i set t) (xs := set) (g := fun i a => if a = t then some (i : Int) else none) (fun k i hi => by
    show ref01_Index.l0 (k + 1) i set t = _
    rw [ref01_Index.l0]
    by_cases h : i < set.length
    · have h2 : 0 ≤ (i : Int) ∧ (i : Int) < (set.length : Int) := by omega
      rw [dif_pos h, if_pos (by simpa using h), if_pos h2, rdD_get h, w64_id (by omega) (by omega)]
      by_cases hb : set[i] = t
      · subst hb; simp
      · have : ((set[i].N == t.N) && ((set[i].E == t.E) && ((set[i].S == t.S) && (set[i].W == t.W)))) = false := by
          cases hc : ((set[i].N == t.N) && ((set[i].E == t.E) && ((set[i].S == t.S) && (set[i].W == t.W))))
          · rfl
          · simp only [Bool.and_eq_true, beq_iff_eq] at hc
            exact absurd (Tile.ext' hc.1 hc.2.1 hc.2.2.1 hc.2.2.2) hb
        rw [this, if_neg hb]; rfl
    · rw [dif_neg h, if_neg (by simpa using h)]) set.length k 0 (by simp) hk
  have h0 : ref01_Index.l0 k 0 set t = some (fin (firstS (fun i a => if a = t then some (i : Int) else none) 0 (set.drop 0))) := this
  rw [List.drop_zero] at h0
  have key : ∀ (l : List Tile) (i : Nat), match firstS (fun i a => if a = t then some (i : Int) else none) i l with
      | some x => decide (x ≥ 0) = decide (t ∈ l)
      | none => decide (t ∈ l) = false := by
    intro l
    induction l with
    | nil => intro i; simp [firstS]
    | cons a r ih =>
      intro i
      rw [firstS]
      by_cases ha : a = t
      · subst ha; simp
      · have hne : ¬ t = a := fun e => ha e.symm
        rw [if_neg ha]
        have := ih (i + 1)
        cases hf : firstS (fun i a => if a = t then some (i : Int) else none) (i + 1) r with
        | none => rw [hf] at this; simp only [List.mem_cons, hne, false_or]; exact this
        | some x => rw [hf] at this; simp only [List.mem_cons, hne, false_or]; exact this
  unfold ref01_Index
  rw [h0]
  have hk2 := key set 0
  cases hf : firstS (fun i a => if a = t then some (i : Int) else none) 0 set with
  | none => rw [hf] at hk2; exact ⟨-1, rfl, by rw [hk2]; rfl⟩
  | some x => rw [hf] at hk2; exact ⟨x, rfl, hk2⟩
theorem valid01 (set : List Tile) {k : Nat} (hk : 2002 < k) (hl : set.length ≤ 9223372036854775807) : ref01_Valid k set = some (validT set) := by
  unfold ref01_Valid validT
  by_cases hb : set.length ≤ 1000
  · rw [if_neg (by simp; omega)]
    have := loop_all (F := fun k i (_ : Unit) => ref01_Valid.l0 k i set) (S := fun _ => ()) (b := newB set) (n := set.length) (K := 1001) (r := false) (e := ()) (fun k i hk hi => by
      show ref01_Valid.l0 (k + 1) i set = if newB set i = true then ref01_Valid.l0 k ((i + 1 : Nat) : Int) set else _
      have hcut : cut set (0 : Int) (i : Int) = set.take i := by unfold cut; simp
      obtain ⟨r, hr, hd⟩ := index01 (set := set.take i) (by rw [List.length_take]; omega) (set.getD i z_Tile) (k := k) (by rw [List.length_take]; omega)
      rw [ref01_Valid.l0, if_pos (by simpa using hi), if_pos (by omega)]
      simp only [rdD_nat, colour01, Option.bind_some, hcut]
      rw [if_pos (⟨by omega, by omega, by omega⟩ : 0 ≤ (0 : Int) ∧ (0 : Int) ≤ (i : Int) ∧ (i : Int) ≤ (set.length : Int)), hr, w64_id (by omega) (by omega)]
      simp only [Option.bind_some, hd]
      unfold newB colB
      cases inCol (set.getD i z_Tile).N
      · simp
      · cases inCol (set.getD i z_Tile).E
        · simp
        · cases inCol (set.getD i z_Tile).S
          · simp
          · cases inCol (set.getD i z_Tile).W
            · simp
            · cases decide (set.getD i z_Tile ∈ set.take i) <;> simp) (fun k => by
      show ref01_Valid.l0 (k + 1) set.length set = _
      rw [ref01_Valid.l0, if_neg (by simp)]) k (by omega)
    have h0 : ref01_Valid.l0 k 0 set = some (if (List.range set.length).all (newB set) = true then .inr () else .inl false) := this
    rw [h0]
    cases (List.range set.length).all (newB set) <;> simp [sumb, hb]
  · rw [if_pos (by simp; omega)]; simp [hb]
end Gp
set_option linter.unusedVariables false
set_option linter.unusedSimpArgs false
namespace Gp
open Gw Gq
/-! ### grids: lists of rows -/
def grid (w h : Nat) (g : Nat → Nat → Int) : List Int := (List.range h).flatMap fun y => (List.range w).map (g y)
theorem grid_len (w h : Nat) (g : Nat → Nat → Int) : (grid w h g).length = h * w := flat_len (f := fun y => (List.range w).map (g y)) (b := w) (fun y => by simp) h
theorem grid_get (w h : Nat) (g : Nat → Nat → Int) {x y : Nat} (hx : x < w) (hy : y < h) : (grid w h g).getD (y * w + x) 0 = g y x := by
  have := flat_get (f := fun y => (List.range w).map (g y)) (n := h) (q := y) (j := x) (t := g y x) hy (by simp [hx])
  have e : ((List.range y).flatMap fun y => (List.range w).map (g y)).length = y * w := grid_len w y g
  rw [e] at this
  unfold grid
  rw [List.getD_eq_getElem?_getD, this]; rfl
/-! ### stores into a list -/
def sets (l : List Int) (q : List (Nat × Int)) : List Int := q.foldl (fun l p => l.set p.1 p.2) l
/-! ### patterns that have the form of one -/
structure GForm (p : Pattern) (W H : Nat) : Prop where
  w : p.Width = W
  h : p.Height = H
  dW : 1 ≤ W ∧ W ≤ 40000
  dH : 1 ≤ H ∧ H ≤ 40000
  wh : H * W ≤ 40000
  len : p.Cells.length = H * W
theorem GForm.form {p : Pattern} {W H : Nat} (f : GForm p W H) : formB p = true := by
  have h1 := f.dW; have h2 := f.dH; have h3 := f.wh
  have e : p.Width * p.Height = ((H * W : Nat) : Int) := by rw [f.w, f.h, Int.natCast_mul, Int.mul_comm]
  unfold formB; rw [e, f.w, f.h, f.len]; exact decide_eq_true ⟨by omega, by omega, by omega, by omega, by omega, rfl⟩
theorem PForm.g {set : List Tile} {p : Pattern} {W H : Nat} (f : PForm set p W H) : GForm p W H := ⟨f.w, f.h, f.dW, f.dH, f.wh, f.len⟩
def cellG (p : Pattern) (W y x : Nat) : Int := p.Cells.getD (y * W + x) 0
theorem GForm.at {p : Pattern} {W H : Nat} (f : GForm p W H) {x y : Nat} (hx : x < W) (hy : y < H) : w64 (w64 ((y : Int) * (W : Int)) + (x : Int)) = ((y * W + x : Nat) : Int) ∧ (0 ≤ ((y * W + x : Nat) : Int) ∧ ((y * W + x : Nat) : Int) < (p.Cells.length : Int)) := by
  have hwh := f.wh
  have hp := place_lt hx hy
  refine ⟨?_, by omega, by rw [f.len]; omega⟩
  rw [← Int.natCast_mul, w64_id (n := ((y * W : Nat) : Int)) (by omega) (by omega), w64_id (by omega) (by omega)]; rfl
theorem succ64 {x : Nat} (h : x ≤ 1000000) : w64 ((x : Int) + 1) = ((x + 1 : Nat) : Int) := by rw [w64_id (by omega) (by omega)]; rfl
/-! ### the changed patterns -/
end Gp
set_option linter.unusedVariables false
set_option linter.unusedSimpArgs false
namespace Gp
open Gw Gq
/-! ### cuts -/
/-! ### patterns, repeated -/
/-! ### what is equal -/
theorem same01 (l : List Int) (hl : l.length ≤ 1000000) {k : Nat} (hk : l.length < k) : ref01_Same k l l = some true := by
  have := loop_all (F := fun k i (_ : Unit) => ref01_Same.l0 k i l l) (S := fun _ => ()) (b := fun _ => true) (n := l.length) (K := 0) (r := false) (e := ()) (fun k i _ hi => by
    show ref01_Same.l0 (k + 1) i l l = if true = true then ref01_Same.l0 k ((i + 1 : Nat) : Int) l l else _
    rw [ref01_Same.l0, if_pos (by simpa using hi), if_pos (by omega), if_pos (by omega), if_neg (by simp), succ64 (by omega), if_pos rfl]) (fun k => by
    show ref01_Same.l0 (k + 1) l.length l l = _
    rw [ref01_Same.l0, if_neg (by simp)]) k (by omega)
  have this : ref01_Same.l0 k 0 l l = some (if (List.range l.length).all (fun _ => true) = true then .inr () else .inl false) := this
  unfold ref01_Same
  rw [if_neg (by simp), this, if_pos (by simp)]; rfl
theorem samePat (p : Pattern) (hl : p.Cells.length ≤ 1000000) {k : Nat} (hk : p.Cells.length < k) : ref01_SamePattern k p p = some true := by
  unfold ref01_SamePattern
  simp [same01 p.Cells hl hk]
end Gp
set_option linter.unusedVariables false
set_option linter.unusedSimpArgs false
namespace Gp
open Gw Gq
/-! ### changed sets -/
def upT (t : Tile) : Tile := ⟨t.S, t.E, t.N, t.W⟩
def turnT (t : Tile) : Tile := ⟨t.W, t.N, t.E, t.S⟩
structure Chg (f : Tile → Tile) : Prop where
  inj : ∀ a b, f a = f b → a = b
  col : ∀ t, colB (f t) = colB t
theorem chg_up : Chg upT := ⟨fun a b h => by cases a; cases b; simp only [upT, Tile.mk.injEq] at h; obtain ⟨rfl, rfl, rfl, rfl⟩ := h; rfl, fun t => by unfold colB upT; simp only; cases inCol t.N <;> cases inCol t.E <;> cases inCol t.S <;> cases inCol t.W <;> rfl⟩
theorem chg_turn : Chg turnT := ⟨fun a b h => by cases a; cases b; simp only [turnT, Tile.mk.injEq] at h; obtain ⟨rfl, rfl, rfl, rfl⟩ := h; rfl, fun t => by unfold colB turnT; simp only; cases inCol t.N <;> cases inCol t.E <;> cases inCol t.S <;> cases inCol t.W <;> rfl⟩
theorem getD_map (f : Tile → Tile) {s : List Tile} {i : Nat} (h : i < s.length) : (s.map f).getD i z_Tile = f (s.getD i z_Tile) := by simp [List.getElem?_eq_getElem h]
theorem Chg.valid {f : Tile → Tile} (c : Chg f) {s : List Tile} (hv : validT s = true) : validT (s.map f) = true := by
  unfold validT at hv ⊢
  simp only [Bool.and_eq_true, decide_eq_true_eq, List.all_eq_true, List.mem_range, List.length_map] at hv ⊢
  refine ⟨hv.1, fun i hi => ?_⟩
  have := hv.2 i hi
  unfold newB at this ⊢
  rw [getD_map f hi, ← List.map_take, c.col]
  simp only [Bool.and_eq_true, Bool.not_eq_true', decide_eq_false_iff_not] at this ⊢
  refine ⟨fun hm => this.1 ?_, this.2⟩
  obtain ⟨a, ha, he⟩ := List.mem_map.1 hm
  rw [← c.inj _ _ he]; exact ha
/-! ### how the tiles of a grid meet -/
def JP (W H : Nat) (round : Bool) (T : Nat → Nat → Tile) : Prop :=
  (∀ y x, y < H → x < W → (x + 1 < W ∨ round = true) → (T y x).E = (T y ((x + 1) % W)).W) ∧ (∀ y x, y < H → x < W → (y + 1 < H ∨ round = true) → (T y x).N = (T ((y + 1) % H) x).S)
theorem JP.congr {W H : Nat} {round : Bool} {T T' : Nat → Nat → Tile} (he : ∀ y x, y < H → x < W → T y x = T' y x) (h : JP W H round T) : JP W H round T' := by
  refine ⟨fun y x hy hx hr => ?_, fun y x hy hx hr => ?_⟩
  · rw [← he y x hy hx, ← he y _ hy (Nat.mod_lt _ (by omega))]; exact h.1 y x hy hx hr
  · rw [← he y x hy hx, ← he _ x (Nat.mod_lt _ (by omega)) hx]; exact h.2 y x hy hx hr
def GP (W H : Nat) (c : Nat → Nat → Int) : Pattern := ⟨W, H, grid W H c⟩
def TT (s : List Tile) (c : Nat → Nat → Int) (y x : Nat) : Tile := s.getD (c y x).toNat z_Tile
structure GOK (s : List Tile) (W H : Nat) (c : Nat → Nat → Int) (whole : Bool) : Prop where
  valid : validT s = true
  dW : 1 ≤ W ∧ W ≤ 40000
  dH : 1 ≤ H ∧ H ≤ 40000
  wh : H * W ≤ 40000
  cel : ∀ y x, y < H → x < W → 0 ≤ c y x ∧ c y x < (s.length : Int)
  fits : JP W H false (TT s c)
  round : whole = true ↔ JP W H true (TT s c)
theorem valid_len {s : List Tile} (hv : validT s = true) : s.length ≤ 1000 := by unfold validT at hv; simp only [Bool.and_eq_true, decide_eq_true_eq] at hv; exact hv.1
theorem GOK.congr {s : List Tile} {W H : Nat} {c c' : Nat → Nat → Int} {whole : Bool} (g : GOK s W H c whole) (he : ∀ y x, y < H → x < W → c y x = c' y x) : GOK s W H c' whole := by
  have ht : ∀ y x, y < H → x < W → TT s c y x = TT s c' y x := fun y x hy hx => by unfold TT; rw [he y x hy hx]
  exact ⟨g.valid, g.dW, g.dH, g.wh, fun y x hy hx => by rw [← he y x hy hx]; exact g.cel y x hy hx, g.fits.congr ht, g.round.trans ⟨fun h => h.congr ht, fun h => h.congr (fun y x hy hx => (ht y x hy hx).symm)⟩⟩
theorem TT_map {f : Tile → Tile} {s : List Tile} {c : Nat → Nat → Int} {y x : Nat} (h : 0 ≤ c y x ∧ c y x < (s.length : Int)) : TT (s.map f) c y x = f (TT s c y x) := by
  unfold TT
  rw [getD_map f (by omega)]
/-! mirrored -/
theorem mod_back {W x : Nat} (hx : x < W) : (W - 1 - (x + 1) % W + 1) % W = W - 1 - x ∧ W - 1 - (x + 1) % W < W ∧ (x + 1 < W → W - 1 - (x + 1) % W + 1 < W) := by
  by_cases h : x + 1 < W
  · rw [Nat.mod_eq_of_lt h, show W - 1 - (x + 1) + 1 = W - 1 - x by omega, Nat.mod_eq_of_lt (by omega)]; omega
  · have e : x + 1 = W := by omega
    rw [e, Nat.mod_self, show W - 1 - 0 + 1 = W by omega, Nat.mod_self]; omega
theorem JP.up {W H : Nat} {round : Bool} {T : Nat → Nat → Tile} (h : JP W H round T) : JP W H round (fun y x => upT (T (H - 1 - y) x)) := by
  refine ⟨fun y x hy hx hr => ?_, fun y x hy hx hr => ?_⟩
  · exact h.1 (H - 1 - y) x (by omega) hx hr
  · obtain ⟨e, hlt, hi⟩ := mod_back hy
    have := h.2 (H - 1 - (y + 1) % H) x hlt hx (hr.imp hi id)
    rw [e] at this
    exact this.symm
theorem JP.turn {W H : Nat} {round : Bool} {T : Nat → Nat → Tile} (h : JP W H round T) : JP H W round (fun y x => turnT (T x (W - 1 - y))) := by
  refine ⟨fun y x hy hx hr => ?_, fun y x hy hx hr => ?_⟩
  · exact h.2 x (W - 1 - y) hx (by omega) hr
  · obtain ⟨e, hlt, hi⟩ := mod_back hy
    have := h.1 x (W - 1 - (y + 1) % W) hx hlt (hr.imp hi id)
    rw [e] at this
    exact this.symm
theorem GOK.up {s : List Tile} {W H : Nat} {c : Nat → Nat → Int} {whole : Bool} (g : GOK s W H c whole) : GOK (s.map upT) W H (fun y x => c (H - 1 - y) x) whole := by
  have hdH := g.dH
  have ht : ∀ y x, y < H → x < W → upT (TT s c (H - 1 - y) x) = TT (s.map upT) (fun y x => c (H - 1 - y) x) y x := fun y x hy hx => by
    exact (TT_map (f := upT) (c := fun y x => c (H - 1 - y) x) (y := y) (x := x) (g.cel (H - 1 - y) x (by omega) hx)).symm
  refine ⟨chg_up.valid g.valid, g.dW, g.dH, g.wh, fun y x hy hx => by rw [List.length_map]; exact g.cel _ x (by omega) hx, g.fits.up.congr ht, ?_⟩
  rw [g.round]
  constructor
  · exact fun h => h.up.congr ht
  · intro h
    have := (h.congr (fun y x hy hx => (ht y x hy hx).symm)).up
    exact this.congr fun y x hy hx => by
      rw [show H - 1 - (H - 1 - y) = y by omega]; rfl
theorem GOK.turn {s : List Tile} {W H : Nat} {c : Nat → Nat → Int} {whole : Bool} (g : GOK s W H c whole) : GOK (s.map turnT) H W (fun y x => c x (W - 1 - y)) whole := by
  have hdW := g.dW; have hdH := g.dH
  have ht : ∀ y x, y < W → x < H → turnT (TT s c x (W - 1 - y)) = TT (s.map turnT) (fun y x => c x (W - 1 - y)) y x := fun y x hy hx => by
    exact (TT_map (f := turnT) (c := fun y x => c x (W - 1 - y)) (y := y) (x := x) (g.cel x (W - 1 - y) hx (by omega))).symm
  refine ⟨chg_turn.valid g.valid, g.dH, g.dW, by rw [Nat.mul_comm]; exact g.wh, fun y x hy hx => by rw [List.length_map]; exact g.cel x _ hx (by omega), g.fits.turn.congr ht, ?_⟩
  rw [g.round]
  constructor
  · exact fun h => h.turn.congr ht
  · intro h
    have := (h.congr (fun y x hy hx => (ht y x hy hx).symm)).turn.turn.turn
    exact this.congr fun y x hy hx => by
      rw [show H - 1 - (H - 1 - y) = y by omega, show W - 1 - (W - 1 - x) = x by omega]; rfl
theorem GP.g {W H : Nat} {c : Nat → Nat → Int} (dW : 1 ≤ W ∧ W ≤ 40000) (dH : 1 ≤ H ∧ H ≤ 40000) (wh : H * W ≤ 40000) : GForm (GP W H c) W H := ⟨rfl, rfl, dW, dH, wh, grid_len W H c⟩
theorem GP.cell {W H : Nat} (c : Nat → Nat → Int) {y x : Nat} (hy : y < H) (hx : x < W) : cellG (GP W H c) W y x = c y x := grid_get W H c hx hy
end Gp
set_option linter.unusedVariables false
set_option linter.unusedSimpArgs false
namespace Gp
open Gw Gq
end Gp
set_option linter.unusedVariables false
set_option linter.unusedSimpArgs false
namespace Gq
theorem loop_list {α σ τ : Type} {F : Nat → Int → σ → Option τ} (xs : List α) (step : σ → α → σ) (K : Nat) (P : Nat → σ → Prop) (fin : σ → τ)
    (hs : ∀ k i s (h : i < xs.length), K ≤ k → P i s → F (k + 1) (i : Int) s = F k ((i + 1 : Nat) : Int) (step s xs[i]) ∧ P (i + 1) (step s xs[i])) (he : ∀ k s, P xs.length s → F (k + 1) (xs.length : Int) s = some (fin s)) :
    ∀ (s0 : σ), P 0 s0 → ∀ k, xs.length + K < k → F k 0 s0 = some (fin (xs.foldl step s0)) := by
  have key : ∀ d i s k, i + d = xs.length → P i s → d + K < k → F k (i : Int) s = some (fin ((xs.drop i).foldl step s)) := by
    intro d
    induction d with
    | zero =>
      intro i s k hi hp hk
      obtain ⟨k, rfl⟩ : ∃ m, k = m + 1 := ⟨k - 1, by omega⟩
      have : i = xs.length := by omega
      subst this
      rw [he k s hp, List.drop_length]; rfl
    | succ d ih =>
      intro i s k hi hp hk
      obtain ⟨k, rfl⟩ : ∃ m, k = m + 1 := ⟨k - 1, by omega⟩
      have hlt : i < xs.length := by omega
      obtain ⟨h1, h2⟩ := hs k i s hlt (by omega) hp
      rw [h1, ih (i + 1) _ k (by omega) h2 (by omega), List.drop_eq_getElem_cons hlt]; rfl
  intro s0 h0 k hk
  have := key xs.length 0 s0 k (by omega) h0 hk
  simpa using this
end Gq
namespace Gp
open Gw Gq
/-! ### words, rows -/
def tat (set : List Tile) (i : Nat) : Tile := set.getD i z_Tile
def cz (c : List Nat) : List Int := c.map fun (i : Nat) => (i : Int)
def wordOf (l : List Int) : A8_Int := ⟨l.getD 0 0, l.getD 1 0, l.getD 2 0, l.getD 3 0, l.getD 4 0, l.getD 5 0, l.getD 6 0, l.getD 7 0⟩
def mkR (set : List Tile) (c : List Nat) : Row := ⟨cz c, wordOf (c.map fun i => (tat set i).S), wordOf (c.map fun i => (tat set i).N), (tat set (c.headD 0)).W, (tat set (c.getLastD 0)).E⟩
def follows (set : List Tile) (c : List Nat) (i : Nat) : Bool := match c.getLast? with
  | none => true
  | some j => (tat set j).E == (tat set i).W
def rowsL (set : List Tile) : Nat → List Nat → List (List Nat)
  | 0, c => [c]
  | n + 1, c => ((List.range set.length).filter (follows set c)).flatMap fun i => rowsL set n (c ++ [i])
theorem wordOf_get (l : List Int) (i : Nat) (hi : i < 8) : (wordOf l).get i = l.getD i 0 := by
  have : i = 0 ∨ i = 1 ∨ i = 2 ∨ i = 3 ∨ i = 4 ∨ i = 5 ∨ i = 6 ∨ i = 7 := by omega
  rcases this with rfl | rfl | rfl | rfl | rfl | rfl | rfl | rfl <;> rfl
theorem wordOf_inj {a b : List Int} (ha : a.length ≤ 8) (h : a.length = b.length) : wordOf a = wordOf b ↔ a = b := by
  constructor
  · intro e
    apply List.ext_getElem? 
    intro i
    by_cases hi : i < a.length
    · have h1 := wordOf_get a i (by omega)
      have h2 := wordOf_get b i (by omega)
      rw [e, h2] at h1
      rw [List.getElem?_eq_getElem hi, List.getElem?_eq_getElem (by omega)]
      simp only [List.getD, List.getElem?_eq_getElem hi, List.getElem?_eq_getElem (show i < b.length by omega), Option.getD_some] at h1
      rw [h1]
    · rw [List.getElem?_eq_none (by omega), List.getElem?_eq_none (by omega)]
  · intro e; rw [e]
theorem wordOf_set (l : List Int) (v : Int) (hl : l.length < 8) : (wordOf l).set l.length v = wordOf (l ++ [v]) := by
  have : l.length = 0 ∨ l.length = 1 ∨ l.length = 2 ∨ l.length = 3 ∨ l.length = 4 ∨ l.length = 5 ∨ l.length = 6 ∨ l.length = 7 := by omega
  match l, this with
  | [], _ => rfl
  | [a], _ => rfl
  | [a, b], _ => rfl
  | [a, b, c], _ => rfl
  | [a, b, c, d], _ => rfl
  | [a, b, c, d, e], _ => rfl
  | [a, b, c, d, e, f], _ => rfl
  | [a, b, c, d, e, f, g], _ => rfl
  | _ :: _ :: _ :: _ :: _ :: _ :: _ :: _ :: l, h => simp at h
theorem rowOf_l0 (set : List Tile) (c : List Nat) (hc : ∀ i ∈ c, i < set.length) (h8 : c.length ≤ 8) {k : Nat} (hk : c.length < k) :
    rows_rowOf.l0 k (A8_Int.mk 0 0 0 0 0 0 0 0) (A8_Int.mk 0 0 0 0 0 0 0 0) 0 set (cz c) = some (wordOf (c.map fun i => (tat set i).S), wordOf (c.map fun i => (tat set i).N)) := by
  have key : ∀ d i k, i + d = c.length → d < k → rows_rowOf.l0 k (wordOf ((c.take i).map fun i => (tat set i).S)) (wordOf ((c.take i).map fun i => (tat set i).N)) (i : Int) set (cz c) = some (wordOf (c.map fun i => (tat set i).S), wordOf (c.map fun i => (tat set i).N)) := by
    intro d
    induction d with
    | zero =>
      intro i k hi hk
      obtain ⟨k, rfl⟩ : ∃ m, k = m + 1 := ⟨k - 1, by omega⟩
      have : i = c.length := by omega
      subst this
      rw [rows_rowOf.l0, if_neg (by simp [cz]), List.take_length]
    | succ d ih =>
      intro i k hi hk
      obtain ⟨k, rfl⟩ : ∃ m, k = m + 1 := ⟨k - 1, by omega⟩
      have hlt : i < c.length := by omega
      have hci := hc c[i] (List.getElem_mem _)
      have hz : rdD (cz c) (i : Int) 0 = ((c[i] : Nat) : Int) := by rw [rdD_get (by simpa [cz] using hlt)]; simp [cz]
      rw [rows_rowOf.l0, if_pos (by simp [cz]; omega), if_pos (by simp [cz]; omega), hz, if_pos (by omega), if_pos (by omega), w64_id (by omega) (by omega), rdD_nat]
      have e1 := wordOf_set ((c.take i).map fun i => (tat set i).S) (tat set c[i]).S (by simp; omega)
      have e2 := wordOf_set ((c.take i).map fun i => (tat set i).N) (tat set c[i]).N (by simp; omega)
      have hlen : ((c.take i).map fun i => (tat set i).S).length = i := by simp; omega
      have hlen2 : ((c.take i).map fun i => (tat set i).N).length = i := by simp; omega
      rw [hlen] at e1; rw [hlen2] at e2
      have ht : c.take (i + 1) = c.take i ++ [c[i]] := by rw [List.take_add_one, List.getElem?_eq_getElem hlt]; rfl
      show rows_rowOf.l0 k (A8_Int.set _ i (tat set c[i]).S) (A8_Int.set _ i (tat set c[i]).N) _ set (cz c) = _
      rw [e1, e2]
      have := ih (i + 1) k (by omega) (by omega)
      rw [ht, List.map_append, List.map_append] at this
      exact this
  exact key c.length 0 k (by omega) hk
theorem rowOf_eq (set : List Tile) (c : List Nat) (hc : ∀ i ∈ c, i < set.length) (h8 : c.length ≤ 8) (h1 : 1 ≤ c.length) {k : Nat} (hk : c.length < k) : rows_rowOf k set (cz c) = some (mkR set c) := by
  have hl : (cz c).length = c.length := by simp [cz]
  have h0 : rdD (cz c) (0 : Int) 0 = ((c.headD 0 : Nat) : Int) := by
    cases c with
    | nil => simp at h1
    | cons a r => rfl
  have hn : c ≠ [] := by intro e; rw [e] at h1; simp at h1
  have hh : c.headD 0 < set.length := by
    cases c with
    | nil => simp at h1
    | cons a r => exact hc a (by simp)
  have hlast : c.getLastD 0 < set.length := by
    rw [List.getLastD_eq_getLast?, List.getLast?_eq_some_getLast hn]; exact hc _ (List.getLast_mem hn)
  have hw : w64 (((cz c).length : Int) - 1) = ((c.length - 1 : Nat) : Int) := by rw [hl, w64_id (by omega) (by omega)]; omega
  have hz : rdD (cz c) (((c.length - 1 : Nat) : Int)) 0 = ((c.getLastD 0 : Nat) : Int) := by
    rw [rdD_get (by rw [hl]; omega)]
    rw [List.getLastD_eq_getLast?, List.getLast?_eq_some_getLast hn, Option.getD_some, List.getLast_eq_getElem]
    simp [cz]
  unfold rows_rowOf
  rw [rowOf_l0 set c hc h8 hk, hw, hz, h0, if_pos (by simp [cz]; omega), Option.bind_some, if_pos (by rw [hl]; omega), if_pos (by omega), if_pos (by rw [hl]; omega), if_pos (by omega), rdD_nat, rdD_nat]
  rfl
theorem all1 (set : List Tile) (w : Nat) (h1 : 1 ≤ w) (h8 : w ≤ 8) (hl : set.length ≤ 1000000) : ∀ (n x : Nat) (c : List Nat) (out : List Row) (cells : List Int) (k : Nat), x + n = w → c.length = x → (∀ i ∈ c, i < set.length) → cells.length = w → cells.take x = cz c →
    out.length + (rowsL set n c).length ≤ 100000000000 → n + set.length + 10 < k → ∃ cells', rows_All_1 k (x : Int) (w : Int) out set cells = some (out ++ (rowsL set n c).map (mkR set), cells') ∧ cells'.length = w ∧ cells'.take x = cz c := by
  intro n
  induction n with
  | zero =>
    intro x c out cells k hx hc hcs hcl hct hb hk
    obtain ⟨k, rfl⟩ : ∃ m, k = m + 1 := ⟨k - 1, by omega⟩
    have hxw : x = w := by omega
    subst hxw
    have he : cells = cz c := by rw [← hct, ← hcl, List.take_length]
    refine ⟨cells, ?_, hcl, hct⟩
    rw [rows_All_1, if_pos (by simp), he, rowOf_eq set c hcs (by omega) (by omega) (by omega), Option.bind_some, if_pos (by simp [rowsL] at hb; omega)]
    rfl
  | succ n ih =>
    intro x c out cells k hx hc hcs hcl hct hb hk
    obtain ⟨k, rfl⟩ : ∃ m, k = m + 1 := ⟨k - 1, by omega⟩
    have key : ∀ d i k' (out : List Row) (cells : List Int), i + d = set.length → d < k' → cells.length = w → cells.take x = cz c → out.length + (((List.range' i d).filter (follows set c)).flatMap fun i => rowsL set n (c ++ [i])).length ≤ 100000000000 →
        ∃ cells', rows_All_1.l0 k' out cells (i : Int) (x : Int) (w : Int) set (rows_All_1 k) = some (out ++ (((List.range' i d).filter (follows set c)).flatMap fun i => rowsL set n (c ++ [i])).map (mkR set), cells') ∧ cells'.length = w ∧ cells'.take x = cz c := by
      intro d
      induction d with
      | zero =>
        intro i k' out cells hi hk' hcl hct hb
        obtain ⟨k', rfl⟩ : ∃ m, k' = m + 1 := ⟨k' - 1, by omega⟩
        have : i = set.length := by omega
        subst this
        refine ⟨cells, ?_, hcl, hct⟩
        rw [rows_All_1.l0, if_neg (by simp)]; simp
      | succ d ihd =>
        intro i k' out cells hi hk' hcl hct hb
        obtain ⟨k', rfl⟩ : ∃ m, k' = m + 1 := ⟨k' - 1, by omega⟩
        have hlt : i < set.length := by omega
        have hcond : (if ((x : Int) == 0) = true then (some true) else (if 0 ≤ w64 ((x : Int) - 1) ∧ w64 ((x : Int) - 1) < (cells.length : Int) then (if 0 ≤ (rdD cells (w64 ((x : Int) - 1)) 0) ∧ (rdD cells (w64 ((x : Int) - 1)) 0) < (set.length : Int) then (some (((rdD set (rdD cells (w64 ((x : Int) - 1)) 0) z_Tile).E) == ((rdD set (i : Int) z_Tile).W))) else none) else none)) = some (follows set c i) := by
          by_cases h0 : x = 0
          · subst h0
            have : c = [] := List.eq_nil_of_length_eq_zero hc
            subst this
            rfl
          · have hn : c ≠ [] := by intro e; rw [e] at hc; simp at hc; omega
            have hw : w64 ((x : Int) - 1) = ((x - 1 : Nat) : Int) := by rw [w64_id (by omega) (by omega)]; omega
            have hz : rdD cells (((x - 1 : Nat) : Int)) 0 = ((c.getLast hn : Nat) : Int) := by
              rw [rdD_get (by omega)]
              have : cells[x - 1]'(by omega) = (cells.take x)[x - 1]'(by simp; omega) := by simp
              rw [this]
              simp only [hct, List.getLast_eq_getElem]
              simp [cz, hc]
            have hm := hcs _ (List.getLast_mem hn)
            rw [if_neg (by simp; omega), hw, if_pos (by omega), hz, if_pos (by omega), rdD_nat, rdD_nat]
            unfold follows
            rw [List.getLast?_eq_some_getLast hn]; rfl
        have hwi : w64 ((i : Int) + 1) = ((i + 1 : Nat) : Int) := by rw [w64_id (by omega) (by omega)]; rfl
        rw [rows_All_1.l0, if_pos (by simpa using hlt), if_pos (by omega), hcond, Option.bind_some, hwi]
        rw [List.range'_succ, List.filter_cons] at hb ⊢
        cases hf : follows set c i
        · rw [hf] at hb
          simp only [Bool.false_eq_true, if_false] at hb ⊢
          rw [Option.bind_some]
          exact ihd (i + 1) k' out cells (by omega) (by omega) hcl hct hb
        · rw [hf] at hb
          simp only [if_true, List.flatMap_cons, List.length_append] at hb ⊢
          have hset : (cells.set x (i : Int)).take (x + 1) = cz (c ++ [i]) := by
            rw [List.take_add_one, List.take_set_of_le (Nat.le_refl _), hct, List.getElem?_set_self (by omega)]
            simp [cz]
          have hw1 : w64 ((x : Int) + 1) = ((x + 1 : Nat) : Int) := by rw [w64_id (by omega) (by omega)]; rfl
          obtain ⟨cells1, e1, l1, t1⟩ := ih (x + 1) (c ++ [i]) out (cells.set x (i : Int)) k (by omega) (by simp [hc]) (fun j hj => by
            rcases List.mem_append.1 hj with hj | hj
            · exact hcs j hj
            · simp at hj; omega) (by simp [hcl]) hset (by omega) (by omega)
          have t1' : cells1.take x = cz c := by
            have : cells1.take x = (cells1.take (x + 1)).take x := by rw [List.take_take, Nat.min_eq_left (by omega)]
            rw [this, t1]
            simp [cz, ← hc]
          obtain ⟨cells2, e2, l2, t2⟩ := ihd (i + 1) k' (out ++ (rowsL set n (c ++ [i])).map (mkR set)) cells1 (by omega) (by omega) l1 t1' (by simp only [List.length_append, List.length_map]; omega)
          refine ⟨cells2, ?_, l2, t2⟩
          rw [if_pos (by omega), hw1]
          simp only [Int.toNat_natCast]
          rw [e1, Option.bind_some, Option.bind_some]
          show rows_All_1.l0 k' _ cells1 ((i + 1 : Nat) : Int) _ _ _ _ = _
          rw [e2, List.map_append, List.append_assoc]
    rw [rowsL] at hb
    rw [List.range_eq_range'] at hb
    obtain ⟨cells', e, l, t⟩ := key set.length 0 k out cells (by omega) (by omega) hcl hct hb
    refine ⟨cells', ?_, l, t⟩
    rw [rows_All_1, if_neg (by simp; omega)]
    have e' : rows_All_1.l0 k out cells 0 (x : Int) (w : Int) set (rows_All_1 k) = _ := e
    rw [e', Option.bind_some, rowsL, List.range_eq_range']
theorem rowsL_len (set : List Tile) : ∀ (n : Nat) (c : List Nat), (rowsL set n c).length ≤ set.length ^ n
  | 0, c => by simp [rowsL]
  | n + 1, c => by
    rw [rowsL, List.length_flatMap]
    have : ∀ l : List Nat, (l.map fun i => (rowsL set n (c ++ [i])).length).sum ≤ l.length * set.length ^ n := by
      intro l
      induction l with
      | nil => simp
      | cons a r ih =>
        simp only [List.map_cons, List.sum_cons, List.length_cons]
        have := rowsL_len set n (c ++ [a])
        rw [Nat.add_mul]; omega
    refine Nat.le_trans (this _) ?_
    have h2 : ((List.range set.length).filter (follows set c)).length ≤ set.length := by
      have := List.length_filter_le (follows set c) (List.range set.length); simpa using this
    rw [Nat.pow_succ, Nat.mul_comm (set.length ^ n)]
    exact Nat.mul_le_mul_right _ h2
def allR (set : List Tile) (w : Nat) : List Row := (rowsL set w []).map (mkR set)
theorem all_eq (set : List Tile) (w : Nat) (h1 : 1 ≤ w) (h8 : w ≤ 8) (hl : set.length ≤ 1000000) (hf : set.length ^ w ≤ 100000000000) {k : Nat} (hk : set.length + 20 < k) : rows_All k set (w : Int) = some (allR set w) := by
  have hb := rowsL_len set w []
  obtain ⟨cells, e, _, _⟩ := all1 set w h1 h8 hl w 0 [] [] (List.replicate w 0) k (by omega) rfl (fun i h => by cases h) (by simp) (by simp [cz]) (by simp; omega) (by omega)
  unfold rows_All
  have e' : rows_All_1 k 0 (w : Int) [] set (List.replicate w 0) = _ := e
  rw [if_pos (by omega), Int.toNat_natCast, e']; rfl
/-! few -/
def fewB (n w : Nat) : Bool := decide ((max n 1) ^ w ≤ 5000)
theorem few_eq (set : List Tile) (w : Nat) (hw : w ≤ 1000) (hl : set.length ≤ 1000000) {k : Nat} (hk : w < k) : rows_Few k set (w : Int) = some (fewB set.length w) := by
  have hm : maxI (set.length : Int) 1 = ((max set.length 1 : Nat) : Int) := by unfold maxI; split <;> omega
  obtain ⟨m, hmd⟩ : ∃ m, max set.length 1 = m := ⟨_, rfl⟩
  have hm1 : 1 ≤ m := by omega
  have hm2 : m ≤ 1000000 := by omega
  have key : ∀ d i k, i + d = w → d < k → m ^ i ≤ 5000 → rows_Few.l0 k ((m ^ i : Nat) : Int) (i : Int) set (w : Int) = some (if m ^ w ≤ 5000 then .inr () else .inl false) := by
    intro d
    induction d with
    | zero =>
      intro i k hi hk hp
      obtain ⟨k, rfl⟩ : ∃ m, k = m + 1 := ⟨k - 1, by omega⟩
      have : i = w := by omega
      subst this
      rw [rows_Few.l0, if_neg (by simp), if_pos hp]
    | succ d ih =>
      intro i k hi hk hp
      obtain ⟨k, rfl⟩ : ∃ m, k = m + 1 := ⟨k - 1, by omega⟩
      have hpp : m ^ i * m ≤ 5000 * 1000000 := Nat.mul_le_mul hp hm2
      have e : w64 (((m ^ i : Nat) : Int) * maxI (set.length : Int) 1) = ((m ^ (i + 1) : Nat) : Int) := by
        rw [hm, hmd, ← Int.natCast_mul, Nat.pow_succ, w64_id (by omega) (by omega)]
      have hle : m ^ (i + 1) ≤ m ^ w := Nat.pow_le_pow_right hm1 (by omega)
      obtain ⟨q, hq⟩ : ∃ q, m ^ (i + 1) = q := ⟨_, rfl⟩
      rw [rows_Few.l0, if_pos (by simp; omega), e]
      have hwi : w64 ((i : Int) + 1) = ((i + 1 : Nat) : Int) := by rw [w64_id (by omega) (by omega)]; rfl
      by_cases h5 : q ≤ 5000
      · rw [if_neg (by rw [hq]; simp; omega), hwi]
        exact ih (i + 1) k (by omega) (by omega) (by rw [hq]; exact h5)
      · rw [if_pos (by rw [hq]; simp; omega), if_neg]
        intro hw5
        omega
  have := key w 0 k (by omega) hk (by simp)
  have h0 : rows_Few.l0 k 1 0 set (w : Int) = _ := this
  unfold rows_Few fewB
  rw [h0, hmd]
  by_cases h5 : m ^ w ≤ 5000
  · rw [if_pos h5]; simp [sumb, h5]
  · rw [if_neg h5]; simp [sumb, h5]
end Gp
set_option linter.unusedVariables false
set_option linter.unusedSimpArgs false
namespace Gq
open Gw
theorem mget_mput {κ ν : Type} [DecidableEq κ] (x y : κ) (z v : ν) : ∀ l : List (κ × ν), mget x z (mput y v l) = if x = y then v else mget x z l
  | [] => by simp [mput, mget]
  | p :: r => by
    simp only [mput]
    by_cases h : y = p.1
    · rw [if_pos h]
      simp only [mget]
      by_cases hx : x = y
      · rw [if_pos hx, if_pos hx]
      · rw [if_neg hx, if_neg hx, if_neg (fun e => hx (e.trans h.symm))]
    · rw [if_neg h]
      simp only [mget]
      by_cases hx : x = p.1
      · rw [if_pos hx, if_pos hx, if_neg (fun e => h (e.symm.trans hx))]
      · rw [if_neg hx, if_neg hx]; exact mget_mput x y z v r
theorem mget_marks {α κ : Type} [DecidableEq κ] (key : α → κ) (c : α → Bool) (x : κ) : ∀ (l : List α) (m : List (κ × Bool)), mget x false (l.foldl (fun m a => if c a = true then mput (key a) true m else m) m) = (mget x false m || l.any fun a => decide (key a = x) && c a)
  | [], m => by simp
  | a :: r, m => by
    rw [List.foldl_cons, mget_marks key c x r, List.any_cons]
    cases hc : c a
    · simp
    · simp only [if_true, mget_mput, Bool.and_true]
      by_cases h : x = key a
      · simp [h]
      · have : ¬ key a = x := fun e => h e.symm
        simp [h, this]
end Gq
namespace Gp
open Gw Gq
/-! ### rectangles that are filled -/
theorem word_beq (a b : A8_Int) : (a.e0 == b.e0 && (a.e1 == b.e1 && (a.e2 == b.e2 && (a.e3 == b.e3 && (a.e4 == b.e4 && (a.e5 == b.e5 && (a.e6 == b.e6 && a.e7 == b.e7))))))) = decide (a = b) := by
  rw [Bool.eq_iff_iff, decide_eq_true_eq]
  simp only [Bool.and_eq_true, beq_iff_eq]
  constructor
  · rintro ⟨h0, h1, h2, h3, h4, h5, h6, h7⟩; cases a; cases b; simp_all
  · intro h; subst h; simp
end Gp
set_option linter.unusedVariables false
set_option linter.unusedSimpArgs false
namespace Gp
open Gw Gq
def p0P : Pattern := ⟨0, 0, []⟩
/-! the whole function -/
theorem allR_len (set : List Tile) (w : Nat) : (allR set w).length ≤ set.length ^ w := by
  unfold allR; rw [List.length_map]; exact rowsL_len set w []
end Gp
set_option linter.unusedVariables false
set_option linter.unusedSimpArgs false
namespace Gp
open Gw Gq
/-! ### rows and patterns -/
theorem mem_rowsL0 (set : List Tile) : ∀ (n : Nat) (pre c : List Nat), c ∈ rowsL set n pre ↔ c.take pre.length = pre ∧ c.length = pre.length + n ∧ ∀ j, pre.length ≤ j → j < c.length → c.getD j 0 < set.length ∧ follows set (c.take j) (c.getD j 0) = true
  | 0, pre, c => by
    rw [rowsL, List.mem_singleton]
    constructor
    · intro h; subst h; exact ⟨List.take_length, rfl, fun j h1 h2 => by omega⟩
    · rintro ⟨h1, h2, _⟩
      rw [← h1, List.take_of_length_le (by omega)]
  | n + 1, pre, c => by
    rw [rowsL, List.mem_flatMap]
    constructor
    · rintro ⟨i, hi, hc⟩
      rw [List.mem_filter, List.mem_range] at hi
      obtain ⟨h1, h2, h3⟩ := (mem_rowsL0 set n (pre ++ [i]) c).1 hc
      rw [List.length_append, List.length_singleton] at h1 h2 h3
      have hp : c.take pre.length = pre := by
        have : c.take pre.length = (c.take (pre.length + 1)).take pre.length := by rw [List.take_take, Nat.min_eq_left (by omega)]
        rw [this, h1]; simp
      refine ⟨hp, by omega, fun j hj1 hj2 => ?_⟩
      by_cases e : j = pre.length
      · subst e
        have hg : c.getD pre.length 0 = i := by
          have h5 : (c.take (pre.length + 1))[pre.length]? = some i := by rw [h1]; simp
          rw [List.getElem?_take, if_pos (by omega)] at h5
          rw [List.getD_eq_getElem?_getD, h5]; rfl
        rw [hg, hp]; exact hi
      · exact h3 j (by omega) hj2
    · rintro ⟨h1, h2, h3⟩
      have hlt : pre.length < c.length := by omega
      obtain ⟨h4, h5⟩ := h3 pre.length (Nat.le_refl _) hlt
      rw [h1] at h5
      refine ⟨c.getD pre.length 0, ?_, (mem_rowsL0 set n _ c).2 ⟨?_, by simp; omega, fun j hj1 hj2 => h3 j (by simp at hj1; omega) hj2⟩⟩
      · rw [List.mem_filter, List.mem_range]; exact ⟨h4, h5⟩
      · rw [List.length_append, List.length_singleton, List.take_add_one, h1, List.getElem?_eq_getElem hlt]
        simp [List.getElem?_eq_getElem hlt]
structure RowOK (set : List Tile) (w : Nat) (c : List Nat) : Prop where
  len : c.length = w
  lt : ∀ x, x < w → c.getD x 0 < set.length
  adj : ∀ x, x + 1 < w → (tat set (c.getD x 0)).E = (tat set (c.getD (x + 1) 0)).W
theorem follows_take (set : List Tile) (c : List Nat) (j : Nat) (hj : j < c.length) (i : Nat) : follows set (c.take (j + 1)) i = ((tat set (c.getD j 0)).E == (tat set i).W) := by
  unfold follows
  have : (c.take (j + 1)).getLast? = some (c.getD j 0) := by
    have e : c.take (j + 1) = c.take j ++ [c[j]] := by rw [List.take_add_one, List.getElem?_eq_getElem hj]; rfl
    rw [e, List.getLast?_append]
    simp [List.getElem?_eq_getElem hj]
  rw [this]
theorem mem_rowsL (set : List Tile) (w : Nat) (c : List Nat) : c ∈ rowsL set w [] ↔ RowOK set w c := by
  rw [mem_rowsL0]
  constructor
  · rintro ⟨_, h2, h3⟩
    have hl : c.length = w := by simpa using h2
    refine ⟨hl, fun x hx => (h3 x (by simp) (by omega)).1, fun x hx => ?_⟩
    have := (h3 (x + 1) (by simp) (by omega)).2
    rw [follows_take set c x (by omega)] at this
    exact eq_of_beq this
  · rintro ⟨h1, h2, h3⟩
    refine ⟨by simp, by simp [h1], fun j _ hj => ⟨h2 j (by omega), ?_⟩⟩
    cases j with
    | zero => simp [follows]
    | succ j => rw [follows_take set c j (by omega), h3 j (by omega)]; simp
def sideN (set : List Tile) (c : List Nat) : List Int := c.map fun i => (tat set i).N
def sideS (set : List Tile) (c : List Nat) : List Int := c.map fun i => (tat set i).S
structure Fill (set : List Tile) (w h : Nat) (f : Nat → List Nat) : Prop where
  row : ∀ y, y < h → RowOK set w (f y)
  up : ∀ y, y + 1 < h → sideN set (f y) = sideS set (f (y + 1))
theorem mem_allR (set : List Tile) (w : Nat) (r : Row) : r ∈ allR set w ↔ ∃ c, RowOK set w c ∧ r = mkR set c := by
  unfold allR
  rw [List.mem_map]
  constructor
  · rintro ⟨c, hc, rfl⟩; exact ⟨c, (mem_rowsL set w c).1 hc, rfl⟩
  · rintro ⟨c, hc, rfl⟩; exact ⟨c, (mem_rowsL set w c).2 hc, rfl⟩
theorem mkR_sides {set : List Tile} {w : Nat} (hw : w ≤ 8) {c d : List Nat} (hc : c.length = w) (hd : d.length = w) : (mkR set d).South = (mkR set c).North ↔ sideN set c = sideS set d := by
  show wordOf (sideS set d) = wordOf (sideN set c) ↔ _
  rw [wordOf_inj (by simp [sideS]; omega) (by simp [sideS, sideN]; omega)]
  exact eq_comm
def patR (w h : Nat) (f : Nat → List Nat) : Pattern := ⟨w, h, (List.range h).flatMap fun y => cz (f y)⟩
theorem patR_cells {set : List Tile} {w h : Nat} {f : Nat → List Nat} (hf : Fill set w h f) : (patR w h f).Cells.length = h * w ∧ ∀ x y, x < w → y < h → (patR w h f).Cells.getD (y * w + x) 0 = (((f y).getD x 0 : Nat) : Int) := by
  have key : ∀ n, n ≤ h → ((List.range n).flatMap fun y => cz (f y)).length = n * w := by
    intro n
    induction n with
    | zero => intro _; simp
    | succ n ih =>
      intro hn
      rw [flat_succ, List.length_append, ih (by omega), Nat.add_mul]
      have := (hf.row n (by omega)).len
      simp [cz, this]
  refine ⟨key h (Nat.le_refl _), fun x y hx hy => ?_⟩
  have hsplit : ∀ n, y < n → n ≤ h → ((List.range n).flatMap fun y => cz (f y))[y * w + x]? = some (((f y).getD x 0 : Nat) : Int) := by
    intro n
    induction n with
    | zero => intro h; omega
    | succ n ih =>
      intro hy hn
      rw [flat_succ, List.getElem?_append, key n (by omega)]
      by_cases e : y = n
      · subst e
        have hl := (hf.row y (by omega)).len
        rw [if_neg (by omega), show y * w + x - y * w = x by omega]
        simp [cz, List.getElem?_map, List.getElem?_eq_getElem (show x < (f y).length by omega)]
      · rw [if_pos (place_lt hx (by omega))]; exact ih (by omega) (by omega)
  show ((List.range h).flatMap fun y => cz (f y)).getD (y * w + x) 0 = _
  rw [List.getD_eq_getElem?_getD, hsplit h hy (Nat.le_refl _)]; rfl
end Gp
set_option linter.unusedVariables false
set_option linter.unusedSimpArgs false
namespace Gp
open Gw Gq
/-! ### squares -/
end Gp
set_option linter.unusedVariables false
set_option linter.unusedSimpArgs false
namespace Gp
open Gw Gq
/-! ### tori -/
def ringL (set : List Tile) (w : Nat) : List Row := (allR set w).filter fun r => r.West == r.East
theorem foldl_filter {α : Type} (p : α → Bool) : ∀ (l acc : List α), l.foldl (fun a x => if p x = true then a ++ [x] else a) acc = acc ++ l.filter p
  | [], acc => by simp
  | x :: r, acc => by
    rw [List.foldl_cons, foldl_filter p r, List.filter_cons]
    cases p x <;> simp
theorem rings_eq (set : List Tile) (w : Nat) (h1 : 1 ≤ w) (h8 : w ≤ 8) (hl : set.length ≤ 1000000) (hf : set.length ^ w ≤ 1000000) {k : Nat} (hk : set.length + set.length ^ w + 20 < k) : torus_rings k set (w : Int) = some (ringL set w) := by
  have hR := allR_len set w
  unfold torus_rings
  rw [all_eq set w h1 h8 hl (by omega) (by omega), Option.bind_some]
  have := loop_list (F := fun k i (s : List Row) => torus_rings.l0 k s i (allR set w)) (allR set w) (fun a x => if (x.West == x.East) = true then a ++ [x] else a) 0 (fun i s => s.length ≤ i) id (fun k i s h _ hP => by
    have hwi : w64 ((i : Int) + 1) = ((i + 1 : Nat) : Int) := by rw [w64_id (by omega) (by omega)]; rfl
    constructor
    · show torus_rings.l0 (k + 1) s i (allR set w) = _
      rw [torus_rings.l0, if_pos (by simpa using h), if_pos (by omega), rdD_get h, hwi]
      cases hb : ((allR set w)[i].West == (allR set w)[i].East)
      · simp
      · simp only [if_true]; rw [if_pos (by omega)]; rfl
    · split
      · rw [List.length_append]; simp; omega
      · omega) (fun k s _ => by
    show torus_rings.l0 (k + 1) s (allR set w).length (allR set w) = _
    rw [torus_rings.l0, if_neg (by simp)]; rfl) [] (Nat.le_refl _) k (by omega)
  have h2 : torus_rings.l0 k [] 0 (allR set w) = some (id ((allR set w).foldl (fun a x => if (x.West == x.East) = true then a ++ [x] else a) [])) := this
  rw [h2, foldl_filter]; rfl
def nextM (l : List Row) (m : List (A8_Int × Bool)) : List (A8_Int × Bool) := l.foldl (fun acc r => if mget r.North false m = true then mput r.South true acc else acc) []
def itM (l : List Row) (t : A8_Int) : Nat → List (A8_Int × Bool)
  | 0 => mput t true []
  | n + 1 => nextM l (itM l t n)
def reachB (l : List Row) (t : A8_Int) : Nat → A8_Int → Bool
  | 0, s => decide (s = t)
  | n + 1, s => l.any fun r => decide (r.South = s) && reachB l t n r.North
theorem itM_get (l : List Row) (t : A8_Int) : ∀ (n : Nat) (s : A8_Int), mget s false (itM l t n) = reachB l t n s
  | 0, s => by
    simp only [itM, mput, mget, reachB]
    by_cases h : s = t <;> simp [h]
  | n + 1, s => by
    simp only [itM, nextM, reachB]
    rw [mget_marks (key := fun r : Row => r.South) (c := fun r => mget r.North false (itM l t n))]
    simp only [mget, Bool.false_or]
    congr 1
    funext r
    rw [itM_get l t n]
def backS (l : List Row) (t : A8_Int) (n : Nat) : List (Option (List (A8_Int × Bool))) := (List.range (n + 1)).map fun i => some (itM l t i)
theorem back_eq (l : List Row) (t : A8_Int) (n : Nat) (hl : l.length ≤ 1000000) (hn : n ≤ 1000) {k : Nat} (hk : l.length + n + 10 < k) : torus_back k l t (n : Int) = some (backS l t n) := by
  have hl1 : ∀ (m : List (A8_Int × Bool)) {k : Nat}, l.length < k → torus_back.l1 k [] 0 l m = some (nextM l m) := fun m k hk => by
    have := loop_list (F := fun k i (s : List (A8_Int × Bool)) => torus_back.l1 k s i l m) l (fun acc r => if mget r.North false m = true then mput r.South true acc else acc) 0 (fun _ _ => True) id (fun k i s h _ _ => by
      have hwi : w64 ((i : Int) + 1) = ((i + 1 : Nat) : Int) := by rw [w64_id (by omega) (by omega)]; rfl
      refine ⟨?_, trivial⟩
      show torus_back.l1 (k + 1) s i l m = _
      rw [torus_back.l1, if_pos (by simpa using h), if_pos (by omega), rdD_get h, hwi]
      cases hb : mget l[i].North false m <;> simp) (fun k s _ => by
      show torus_back.l1 (k + 1) s l.length l m = _
      rw [torus_back.l1, if_neg (by simp)]; rfl) [] trivial k (by omega)
    exact this
  have key : ∀ d i k, i + d = n → d + l.length + 5 < k → torus_back.l0 k (backS l t i) (i : Int) l (n : Int) = some (backS l t n) := by
    intro d
    induction d with
    | zero =>
      intro i k hi hk
      obtain ⟨k, rfl⟩ : ∃ m, k = m + 1 := ⟨k - 1, by omega⟩
      have : i = n := by omega
      subst this
      rw [torus_back.l0, if_neg (by simp)]
    | succ d ih =>
      intro i k hi hk
      obtain ⟨k, rfl⟩ : ∃ m, k = m + 1 := ⟨k - 1, by omega⟩
      have hbl : (backS l t i).length = i + 1 := by simp [backS]
      have hw : w64 (((backS l t i).length : Int) - 1) = (i : Int) := by rw [hbl, w64_id (by omega) (by omega)]; omega
      have hwi : w64 ((i : Int) + 1) = ((i + 1 : Nat) : Int) := by rw [w64_id (by omega) (by omega)]; rfl
      have hg : rdD (backS l t i) (i : Int) none = some (itM l t i) := by
        rw [rdD_get (by rw [hbl]; omega)]; simp [backS]
      rw [torus_back.l0, if_pos (by simp; omega), hw, if_pos (by rw [hbl]; omega), hg, Option.bind_some, hl1 _ (by omega), Option.bind_some, if_pos (by rw [hbl]; omega), hwi]
      have e : backS l t i ++ [some (nextM l (itM l t i))] = backS l t (i + 1) := by
        unfold backS; rw [map_succ _ (i + 1)]; rfl
      rw [e]
      exact ih (i + 1) k (by omega) (by omega)
  have := key n 0 k (by omega) (by omega)
  unfold torus_back
  have h0 : torus_back.l0 k [some (mput t true [])] 0 l (n : Int) = _ := this
  rw [h0]; rfl
def walkT (l : List Row) (t : A8_Int) : Nat → A8_Int → List Row
  | 0, _ => []
  | m + 1, s => match l.find? (fun r => decide (r.South = s) && reachB l t m r.North) with
    | none => walkT l t m s
    | some r => r :: walkT l t m r.North
def cellsR (l : List Row) : List Int := l.flatMap (·.Cells)
theorem find_l2 (l : List Row) (t : A8_Int) (n m : Nat) (hm : m ≤ n) (hl : l.length ≤ 1000000) (hn : n ≤ 1000) (hC : ∀ r ∈ l, r.Cells.length ≤ 8) (kn : List (A8_Int × List (Option (List (A8_Int × Bool))))) (cells : List Int) (s : A8_Int) (hc : cells.length ≤ 1000000) {k : Nat} (hk : l.length < k) :
    torus_find.l2 k 0 l (kn, backS l t n) cells s (m : Int) = some (match l.find? (fun r => decide (r.South = s) && reachB l t m r.North) with
      | none => (cells, s)
      | some r => (cells ++ r.Cells, r.North)) := by
  have hbl : (backS l t n).length = n + 1 := by simp [backS]
  have hg : rdD (backS l t n) (m : Int) none = some (itM l t m) := by rw [rdD_get (by rw [hbl]; omega)]; simp [backS]
  have key : ∀ d i k, i + d = l.length → d < k → torus_find.l2 k (i : Int) l (kn, backS l t n) cells s (m : Int) = some (match (l.drop i).find? (fun r => decide (r.South = s) && reachB l t m r.North) with
      | none => (cells, s)
      | some r => (cells ++ r.Cells, r.North)) := by
    intro d
    induction d with
    | zero =>
      intro i k hi hk
      obtain ⟨k, rfl⟩ : ∃ m, k = m + 1 := ⟨k - 1, by omega⟩
      have : i = l.length := by omega
      subst this
      rw [torus_find.l2, if_neg (by simp), List.drop_length]; rfl
    | succ d ih =>
      intro i k hi hk
      obtain ⟨k, rfl⟩ : ∃ m, k = m + 1 := ⟨k - 1, by omega⟩
      have hlt : i < l.length := by omega
      have hwi : w64 ((i : Int) + 1) = ((i + 1 : Nat) : Int) := by rw [w64_id (by omega) (by omega)]; rfl
      rw [torus_find.l2, if_pos (by simpa using hlt), if_pos (by omega), rdD_get hlt, hwi, word_beq, hg, if_pos (show 0 ≤ (m : Int) ∧ (m : Int) < ((backS l t n).length : Int) by rw [hbl]; omega), Option.bind_some, itM_get, List.drop_eq_getElem_cons hlt, List.find?_cons]
      have hCi := hC l[i] (List.getElem_mem _)
      have e1 : (if decide (l[i].South = s) = true then some (reachB l t m l[i].North) else some false) = some (decide (l[i].South = s) && reachB l t m l[i].North) := by cases decide (l[i].South = s) <;> rfl
      rw [e1, Option.bind_some]
      cases decide (l[i].South = s) && reachB l t m l[i].North
      · simp only [Bool.false_eq_true, if_false]
        exact ih (i + 1) k (by omega) (by omega)
      · simp only [if_true]; rw [if_pos (by omega)]
  have := key l.length 0 k (by omega) hk
  simpa using this
theorem find_l1 (l : List Row) (t : A8_Int) (n : Nat) (hl : l.length ≤ 1000000) (hn : n ≤ 1000) (hC : ∀ r ∈ l, r.Cells.length ≤ 8) (kn : List (A8_Int × List (Option (List (A8_Int × Bool))))) : ∀ (m : Nat) (cells : List Int) (s : A8_Int) (k : Nat), m ≤ n + 1 → cells.length + 8 * m ≤ 1000000 → m + l.length + 1 < k →
    torus_find.l1 k cells s ((m : Int) - 1) l (kn, backS l t n) = some (cells ++ cellsR (walkT l t m s)) := by
  intro m
  induction m with
  | zero =>
    intro cells s k _ hc hk
    obtain ⟨k, rfl⟩ : ∃ m, k = m + 1 := ⟨k - 1, by omega⟩
    rw [torus_find.l1, if_neg (by simp)]; simp [walkT, cellsR]
  | succ m ih =>
    intro cells s k hm hc hk
    obtain ⟨k, rfl⟩ : ∃ m, k = m + 1 := ⟨k - 1, by omega⟩
    have e1 : (((m + 1 : Nat) : Int) - 1) = (m : Int) := by omega
    have hw : w64 ((m : Int) - 1) = (m : Int) - 1 := w64_id (by omega) (by omega)
    rw [e1, torus_find.l1, if_pos (by simp), find_l2 l t n m (by omega) hl hn hC kn cells s (by omega) (by omega), Option.bind_some, walkT, hw]
    cases hf : l.find? (fun r => decide (r.South = s) && reachB l t m r.North) with
    | none => exact ih cells s k (by omega) (by omega) (by omega)
    | some r =>
      have hCr := hC r (List.mem_of_find?_eq_some hf)
      simp only
      rw [ih (cells ++ r.Cells) r.North k (by omega) (by rw [List.length_append]; omega) (by omega)]
      simp [cellsR]
def findS (l : List Row) (h : Nat) : Option (List Row) := (l.find? fun f => reachB l f.South (h - 1) f.North).map fun f => f :: walkT l f.South (h - 1) f.North
def KnownOK (l : List Row) (h : Nat) (kn : List (A8_Int × List (Option (List (A8_Int × Bool))))) : Prop := ∀ s, mhas s kn = true → mget s [] kn = backS l s (h - 1)
theorem mhas_mput {κ ν : Type} [DecidableEq κ] (x y : κ) (v : ν) : ∀ l : List (κ × ν), mhas x (mput y v l) = (decide (x = y) || mhas x l)
  | [] => by simp [mput, mhas]
  | p :: r => by
    simp only [mput]
    by_cases h : y = p.1
    · rw [if_pos h]
      simp only [mhas]
      by_cases hx : x = y
      · simp [hx]
      · have : ¬ x = p.1 := fun e => hx (e.trans h.symm)
        simp [hx, this]
    · rw [if_neg h]
      simp only [mhas]
      by_cases hx : x = p.1
      · simp [hx]
      · rw [if_neg hx, if_neg hx]; exact mhas_mput x y v r
theorem find_l0 (l : List Row) (w h : Nat) (h1 : 1 ≤ h) (hh : h ≤ 100) (hl : l.length ≤ 1000000) (hC : ∀ r ∈ l, r.Cells.length ≤ 8) : ∀ (d i : Nat) (kn : List (A8_Int × List (Option (List (A8_Int × Bool))))) (k : Nat), i + d = l.length → KnownOK l h kn → d + l.length + h + 20 < k →
    torus_find.l0 k kn (i : Int) (w : Int) (h : Int) l = some (match (l.drop i).find? (fun f => reachB l f.South (h - 1) f.North) with
      | none => .inr ()
      | some f => .inl (⟨w, h, cellsR (f :: walkT l f.South (h - 1) f.North)⟩, true)) := by
  have hw1 : w64 ((h : Int) - 1) = ((h - 1 : Nat) : Int) := by rw [w64_id (by omega) (by omega)]; omega
  have hw2 : w64 ((h : Int) - 2) = ((h - 1 : Nat) : Int) - 1 := by rw [w64_id (by omega) (by omega)]; omega
  intro d
  induction d with
  | zero =>
    intro i kn k hi hkn hk
    obtain ⟨k, rfl⟩ : ∃ m, k = m + 1 := ⟨k - 1, by omega⟩
    have : i = l.length := by omega
    subst this
    rw [torus_find.l0, if_neg (by simp), List.drop_length]; rfl
  | succ d ih =>
    intro i kn k hi hkn hk
    obtain ⟨k, rfl⟩ : ∃ m, k = m + 1 := ⟨k - 1, by omega⟩
    have hlt : i < l.length := by omega
    have hwi : w64 ((i : Int) + 1) = ((i + 1 : Nat) : Int) := by rw [w64_id (by omega) (by omega)]; rfl
    have hCi := hC l[i] (List.getElem_mem _)
    have hbl : (backS l l[i].South (h - 1)).length = h := by simp [backS]; omega
    have hg : rdD (backS l l[i].South (h - 1)) ((h - 1 : Nat) : Int) none = some (itM l l[i].South (h - 1)) := by rw [rdD_get (by rw [hbl]; omega)]; simp [backS]
    have hkn' : ∃ kn', KnownOK l h kn' ∧ (if (!(mhas l[i].South kn)) = true then ((torus_back k l l[i].South (w64 ((h : Int) - 1))).bind fun t => some (mput l[i].South t kn, t)) else (some (kn, (mget l[i].South [] kn)))) = some (kn', backS l l[i].South (h - 1)) := by
      cases hm : mhas l[i].South kn
      · refine ⟨mput l[i].South (backS l l[i].South (h - 1)) kn, fun s hs => ?_, ?_⟩
        · rw [mget_mput]
          by_cases hx : s = l[i].South
          · rw [if_pos hx, hx]
          · rw [if_neg hx]
            rw [mhas_mput] at hs
            simp [hx] at hs
            exact hkn s hs
        · rw [if_pos (by simp), hw1, back_eq l l[i].South (h - 1) hl (by omega) (by omega)]; rfl
      · exact ⟨kn, hkn, by rw [if_neg (by simp), hkn _ hm]⟩
    obtain ⟨kn', hk1, hk2⟩ := hkn'
    rw [torus_find.l0, if_pos (by simpa using hlt), if_pos (by omega), rdD_get hlt, hk2, Option.bind_some, hw1, hw2]
    simp only
    rw [if_pos (by rw [hbl]; omega), hg, Option.bind_some, itM_get, List.drop_eq_getElem_cons hlt, List.find?_cons, hwi]
    cases hr : reachB l l[i].South (h - 1) l[i].North
    · simp only [Bool.not_false, if_true, Bool.false_eq_true, if_false]
      exact ih (i + 1) kn' k (by omega) hk1 (by omega)
    · rw [if_neg (by simp), if_pos (by simp; omega), find_l1 l l[i].South (h - 1) hl (by omega) hC kn' (h - 1) _ _ k (by omega) (by simp; omega) (by omega)]
      simp [cellsR]
theorem find_eq (set : List Tile) (w h : Nat) (hw : 1 ≤ w ∧ w ≤ 8) (hh : 1 ≤ h ∧ h ≤ 100) (hl : set.length ≤ 1000) (hf : set.length ^ w ≤ 100000) {k : Nat} (hk : 300000 < k) : torus_find k set w h = some (match findS (ringL set w) h with
    | none => (p0P, false)
    | some l => (⟨w, h, cellsR l⟩, true)) := by
  have hR := allR_len set w
  have hrl : (ringL set w).length ≤ set.length ^ w := Nat.le_trans (List.length_filter_le _ _) hR
  have hC : ∀ r ∈ ringL set w, r.Cells.length ≤ 8 := by
    intro r hr
    unfold ringL at hr
    rw [List.mem_filter] at hr
    obtain ⟨c, hc, rfl⟩ := (mem_allR set w r).1 hr.1
    have := hc.len
    simp [mkR, cz]; omega
  unfold torus_find
  rw [rings_eq set w hw.1 hw.2 (by omega) (by omega) (by omega), Option.bind_some]
  have := find_l0 (ringL set w) w h hh.1 hh.2 (by omega) hC (ringL set w).length 0 [] k (by omega) (fun s hs => by cases hs) (by omega)
  have h0 : torus_find.l0 k [] 0 (w : Int) (h : Int) (ringL set w) = _ := this
  rw [h0, Option.bind_some, List.drop_zero]
  unfold findS
  cases (ringL set w).find? (fun f => reachB (ringL set w) f.South (h - 1) f.North) <;> rfl
end Gp
set_option linter.unusedVariables false
set_option linter.unusedSimpArgs false
namespace Gp
open Gw Gq
structure TorF (set : List Tile) (w h : Nat) (f : Nat → List Nat) : Prop where
  fill : Fill set w h f
  ring : ∀ y, y < h → (tat set ((f y).getD (w - 1) 0)).E = (tat set ((f y).getD 0 0)).W
  top : sideN set (f (h - 1)) = sideS set (f 0)
theorem walk_path (l : List Row) (t : A8_Int) : ∀ (m : Nat) (s : A8_Int), reachB l t m s = true → (walkT l t m s).length = m ∧ (∀ r ∈ walkT l t m s, r ∈ l) ∧ ∃ b : Nat → A8_Int, b 0 = s ∧ b m = t ∧ ∀ j, j < m → ((walkT l t m s).getD j z_Row).South = b j ∧ ((walkT l t m s).getD j z_Row).North = b (j + 1)
  | 0, s, h => by
    simp only [reachB, decide_eq_true_eq] at h
    subst h
    exact ⟨rfl, fun r hr => by simp [walkT] at hr, fun _ => s, rfl, rfl, fun j hj => by omega⟩
  | m + 1, s, h => by
    rw [reachB, List.any_eq_true] at h
    obtain ⟨r0, hr0, h0⟩ := h
    cases hf : l.find? (fun r => decide (r.South = s) && reachB l t m r.North) with
    | none =>
      rw [List.find?_eq_none] at hf
      exact absurd h0 (hf r0 hr0)
    | some r =>
      have hp := List.find?_some hf
      have hm := List.mem_of_find?_eq_some hf
      simp only [Bool.and_eq_true, decide_eq_true_eq] at hp
      obtain ⟨h1, h2, b, b0, bm, hb⟩ := walk_path l t m r.North hp.2
      have e : walkT l t (m + 1) s = r :: walkT l t m r.North := by rw [walkT, hf]
      rw [e]
      refine ⟨by simp [h1], fun q hq => ?_, fun j => if j = 0 then s else b (j - 1), rfl, by simpa using bm, fun j hj => ?_⟩
      · rcases List.mem_cons.1 hq with rfl | hq
        · exact hm
        · exact h2 q hq
      · cases j with
        | zero => exact ⟨by simpa using hp.1, by simpa using b0.symm⟩
        | succ j => simpa using hb j (by omega)
theorem reach_of_path (l : List Row) : ∀ (m : Nat) (b : Nat → A8_Int), (∀ j, j < m → ∃ r ∈ l, r.South = b j ∧ r.North = b (j + 1)) → reachB l (b m) m (b 0) = true
  | 0, b, _ => by simp [reachB]
  | m + 1, b, h => by
    rw [reachB, List.any_eq_true]
    obtain ⟨r, hr, h1, h2⟩ := h 0 (by omega)
    refine ⟨r, hr, ?_⟩
    have := reach_of_path l m (fun j => b (j + 1)) (fun j hj => h (j + 1) (by omega))
    rw [Bool.and_eq_true, decide_eq_true_eq, h2]
    exact ⟨h1, this⟩
theorem mem_ringL (set : List Tile) {w : Nat} (h1 : 1 ≤ w) (r : Row) : r ∈ ringL set w ↔ ∃ c, RowOK set w c ∧ (tat set (c.getD (w - 1) 0)).E = (tat set (c.getD 0 0)).W ∧ r = mkR set c := by
  unfold ringL
  rw [List.mem_filter, mem_allR]
  have key : ∀ c, RowOK set w c → ((mkR set c).West == (mkR set c).East) = decide ((tat set (c.getD (w - 1) 0)).E = (tat set (c.getD 0 0)).W) := fun c hc => by
    have hl := hc.len
    have e1 : c.headD 0 = c.getD 0 0 := by cases c <;> rfl
    have e2 : c.getLastD 0 = c.getD (w - 1) 0 := by
      have hn : c ≠ [] := by intro e; rw [e] at hl; simp at hl; omega
      rw [List.getLastD_eq_getLast?, List.getLast?_eq_some_getLast hn, Option.getD_some, List.getLast_eq_getElem]
      simp [hl, List.getElem?_eq_getElem (show w - 1 < c.length by omega)]
    show ((tat set (c.headD 0)).W == (tat set (c.getLastD 0)).E) = _
    rw [e1, e2, Bool.eq_iff_iff]
    simp only [beq_iff_eq, decide_eq_true_eq]
    exact eq_comm
  constructor
  · rintro ⟨⟨c, hc, rfl⟩, h⟩
    rw [key c hc, decide_eq_true_eq] at h
    exact ⟨c, hc, h, rfl⟩
  · rintro ⟨c, hc, h, rfl⟩
    exact ⟨⟨c, hc, rfl⟩, by rw [key c hc]; exact decide_eq_true h⟩
theorem word_sides {set : List Tile} {w : Nat} (hw : w ≤ 8) {c d : List Nat} (hc : c.length = w) (hd : d.length = w) : (mkR set c).North = (mkR set d).South ↔ sideN set c = sideS set d := by
  rw [← mkR_sides hw hc hd]; exact eq_comm
theorem find_none {set : List Tile} {w h : Nat} (hw : 1 ≤ w ∧ w ≤ 8) (hh : 1 ≤ h) (hn : findS (ringL set w) h = none) (f : Nat → List Nat) : ¬ TorF set w h f := by
  intro hf
  unfold findS at hn
  rw [Option.map_eq_none_iff, List.find?_eq_none] at hn
  have hmem : ∀ y, y < h → mkR set (f y) ∈ ringL set w := fun y hy => (mem_ringL set hw.1 _).2 ⟨_, hf.fill.row y hy, hf.ring y hy, rfl⟩
  have hlen : ∀ y, y < h → (f y).length = w := fun y hy => (hf.fill.row y hy).len
  have := hn _ (hmem 0 (by omega))
  apply this
  have hb := reach_of_path (ringL set w) (h - 1) (fun j => (mkR set (f j)).North) (fun j hj => ⟨mkR set (f (j + 1)), hmem (j + 1) (by omega), ((word_sides hw.2 (hlen j (by omega)) (hlen (j + 1) (by omega))).2 (hf.fill.up j (by omega))).symm, rfl⟩)
  have ht : (mkR set (f (h - 1))).North = (mkR set (f 0)).South := (word_sides hw.2 (hlen _ (by omega)) (hlen 0 (by omega))).2 hf.top
  have hb' : reachB (ringL set w) (mkR set (f (h - 1))).North (h - 1) (mkR set (f 0)).North = true := hb
  rw [ht] at hb'
  exact hb'
theorem find_some {set : List Tile} {w h : Nat} (hw : 1 ≤ w ∧ w ≤ 8) (hh : 1 ≤ h) {l : List Row} (hn : findS (ringL set w) h = some l) : ∃ f, TorF set w h f ∧ (⟨w, h, cellsR l⟩ : Pattern) = patR w h f := by
  unfold findS at hn
  rw [Option.map_eq_some_iff] at hn
  obtain ⟨r0, hf, rfl⟩ := hn
  have hp := List.find?_some hf
  have hm := List.mem_of_find?_eq_some hf
  obtain ⟨h1, h2, b, b0, bm, hb⟩ := walk_path _ _ _ _ hp
  obtain ⟨L, hL⟩ : ∃ L, r0 :: walkT (ringL set w) r0.South (h - 1) r0.North = L := ⟨_, rfl⟩
  have hlen : L.length = h := by rw [← hL]; simp [h1]; omega
  have hLm : ∀ r ∈ L, r ∈ ringL set w := by
    rw [← hL]; intro r hr
    rcases List.mem_cons.1 hr with rfl | hr
    · exact hm
    · exact h2 r hr
  have hex : ∀ y, ∃ c, y < h → RowOK set w c ∧ (tat set (c.getD (w - 1) 0)).E = (tat set (c.getD 0 0)).W ∧ L.getD y z_Row = mkR set c := fun y => by
    by_cases hy : y < h
    · have : L.getD y z_Row ∈ ringL set w := by
        rw [List.getD_eq_getElem?_getD, List.getElem?_eq_getElem (by omega)]; exact hLm _ (List.getElem_mem _)
      obtain ⟨c, h1, h2, h3⟩ := (mem_ringL set hw.1 _).1 this
      exact ⟨c, fun _ => ⟨h1, h2, h3⟩⟩
    · exact ⟨[], fun h => absurd h hy⟩
  obtain ⟨f, hfy⟩ : ∃ f : Nat → List Nat, ∀ y, y < h → RowOK set w (f y) ∧ (tat set ((f y).getD (w - 1) 0)).E = (tat set ((f y).getD 0 0)).W ∧ L.getD y z_Row = mkR set (f y) := ⟨fun y => Classical.choose (hex y), fun y => Classical.choose_spec (hex y)⟩
  -- the words between the rows
  have hwd : ∀ j, j < h → (L.getD j z_Row).North = b j ∧ (j + 1 < h → (L.getD (j + 1) z_Row).South = b j) := fun j hj => by
    constructor
    · cases j with
      | zero => rw [← hL]; exact b0.symm
      | succ j =>
        have := (hb j (by omega)).2
        rw [← hL]; simpa using this
    · intro hj1
      have := (hb j (by omega)).1
      rw [← hL]; simpa using this
  refine ⟨f, ⟨⟨fun y hy => (hfy y hy).1, fun y hy => ?_⟩, fun y hy => (hfy y hy).2.1, ?_⟩, ?_⟩
  · have e1 := (hwd y (by omega)).1
    have e2 := (hwd y (by omega)).2 hy
    rw [(hfy y (by omega)).2.2] at e1
    rw [(hfy (y + 1) hy).2.2] at e2
    exact (word_sides hw.2 (hfy y (by omega)).1.len (hfy (y + 1) hy).1.len).1 (e1.trans e2.symm)
  · have e1 := (hwd (h - 1) (by omega)).1
    rw [(hfy (h - 1) (by omega)).2.2, bm] at e1
    have e2 : L.getD 0 z_Row = r0 := by rw [← hL]; rfl
    rw [← e2, (hfy 0 (by omega)).2.2] at e1
    exact (word_sides hw.2 (hfy (h - 1) (by omega)).1.len (hfy 0 (by omega)).1.len).1 e1
  · unfold patR
    congr 1
    unfold cellsR
    have : L = (List.range h).map fun y => L.getD y z_Row := by
      apply List.ext_getElem
      · simp [hlen]
      · intro n a b'; simp [List.getElem?_eq_getElem a]
    rw [hL, this, List.flatMap_map]
    have key : ∀ M : List Nat, (∀ y ∈ M, y < h) → (M.flatMap fun y => (L.getD y z_Row).Cells) = M.flatMap fun y => cz (f y) := by
      intro M
      induction M with
      | nil => intro _; rfl
      | cons y M ih =>
        intro hM
        rw [List.flatMap_cons, List.flatMap_cons, ih (fun z hz => hM z (by simp [hz])), (hfy y (hM y (by simp))).2.2]; rfl
    exact key (List.range h) (fun y hy => List.mem_range.1 hy)
/-! tori and patterns -/
end Gp
set_option linter.unusedVariables false
set_option linter.unusedSimpArgs false
namespace Gp
open Gw Gq
end Gp
set_option linter.unusedVariables false
set_option linter.unusedSimpArgs false
namespace Gp
open Gw Gq
/-! ### three tiles: a torus, or no square of side four -/
/-! masks of a set -/
def hR (set : List Tile) (i j : Nat) : Bool := decide (i < set.length ∧ j < set.length ∧ (tat set i).E = (tat set j).W)
end Gp
set_option linter.unusedVariables false
set_option linter.unusedSimpArgs false
namespace Gp
open Gw Gq
/-! ### the least torus -/
def tryW (set : List Tile) (m a w : Nat) : Option Pattern := if a % w = 0 ∧ a / w ≤ m then (findS (ringL set w) (a / w)).map fun l => ⟨w, (a / w : Nat), cellsR l⟩ else none
def firstW (set : List Tile) (m a : Nat) : Nat → Nat → Option Pattern
  | 0, _ => none
  | d + 1, w => match tryW set m a w with
    | some p => some p
    | none => firstW set m a d (w + 1)
def firstA (set : List Tile) (m : Nat) : Nat → Nat → Option Pattern
  | 0, _ => none
  | d + 1, a => match firstW set m a m 1 with
    | some p => some p
    | none => firstA set m d (a + 1)
def leastS (set : List Tile) (m : Nat) : Option Pattern := firstA set m (m * m) 1
theorem few_pow {n m w : Nat} (hf : fewB n m = true) (hw : w ≤ m) : n ^ w ≤ 100000 := by
  unfold fewB at hf
  rw [decide_eq_true_eq] at hf
  have h1 : n ^ w ≤ (max n 1) ^ w := Nat.pow_le_pow_left (by omega) w
  have h2 : (max n 1) ^ w ≤ (max n 1) ^ m := Nat.pow_le_pow_right (by omega) hw
  omega
theorem least_l1 (set : List Tile) (m a : Nat) (hm : m ≤ 6) (ha : 1 ≤ a ∧ a ≤ 36) (hl : set.length ≤ 1000) (hf : fewB set.length m = true) : ∀ (d w k : Nat), w + d = m + 1 → 1 ≤ w → 300001 + d < k → torus_Least.l1 k w set m a = some (match firstW set m a d w with
    | some p => .inl (p, 0)
    | none => .inr ())
  | 0, w, k, e, h1, hk => by
    obtain ⟨k, rfl⟩ : ∃ m, k = m + 1 := ⟨k - 1, by omega⟩
    rw [torus_Least.l1, if_neg (by simp; omega)]; rfl
  | d + 1, w, k, e, h1, hk => by
    obtain ⟨k, rfl⟩ : ∃ m, k = m + 1 := ⟨k - 1, by omega⟩
    have ih := least_l1 set m a hm ha hl hf d (w + 1) k (by omega) (by omega) (by omega)
    have e1 : Int.tmod (a : Int) (w : Int) = ((a % w : Nat) : Int) := rfl
    have e2 : Int.tdiv (a : Int) (w : Int) = ((a / w : Nat) : Int) := rfl
    have hq : a / w ≤ a := Nat.div_le_self _ _
    have hq0 : (0 : Int) ≤ ((a / w : Nat) : Int) := Int.natCast_nonneg _
    have hq3 : ((a / w : Nat) : Int) ≤ 36 := Int.ofNat_le.2 (Nat.le_trans hq ha.2)
    have hwi : w64 ((w : Int) + 1) = ((w + 1 : Nat) : Int) := by rw [w64_id (by omega) (by omega)]; rfl
    rw [torus_Least.l1, if_pos (by simp; omega), if_pos (by omega), e1, e2, w64_id (n := ((a / w : Nat) : Int)) (by omega) (by omega), hwi, firstW]
    unfold tryW
    by_cases hc : a % w = 0 ∧ a / w ≤ m
    · have hq1 : 1 ≤ a / w := by
        rcases Nat.eq_zero_or_pos (a / w) with h0 | h0
        · have := Nat.div_add_mod a w
          rw [h0, hc.1, Nat.mul_zero] at this; omega
        · exact h0
      rw [if_neg (by simp; omega), if_pos hc, find_eq set w (a / w) ⟨h1, by omega⟩ ⟨hq1, by omega⟩ hl (few_pow hf (by omega)) (by omega), Option.bind_some]
      cases findS (ringL set w) (a / w) with
      | none => simp only [Option.map_none]; rw [if_neg (by simp), Option.bind_some]; exact ih
      | some l => simp only [Option.map_some]; rw [if_pos trivial, Option.bind_some]; rfl
    · rw [if_pos (by simp; omega), if_neg hc, Option.bind_some]; exact ih
theorem least_l0 (set : List Tile) (m : Nat) (hm : m ≤ 6) (hl : set.length ≤ 1000) (hf : fewB set.length m = true) : ∀ (d a k : Nat), a + d = m * m + 1 → 1 ≤ a → 300010 + d < k → torus_Least.l0 k a set m = some (match firstA set m d a with
    | some p => .inl (p, 0)
    | none => .inr ())
  | 0, a, k, e, h1, hk => by
    obtain ⟨k, rfl⟩ : ∃ m, k = m + 1 := ⟨k - 1, by omega⟩
    have : m * m ≤ 36 := Nat.mul_le_mul hm hm
    rw [torus_Least.l0, show (m : Int) * (m : Int) = ((m * m : Nat) : Int) by simp, w64_id (by omega) (by omega), if_neg (by simp; omega)]; rfl
  | d + 1, a, k, e, h1, hk => by
    obtain ⟨k, rfl⟩ : ∃ m, k = m + 1 := ⟨k - 1, by omega⟩
    have h36 : m * m ≤ 36 := Nat.mul_le_mul hm hm
    have ih := least_l0 set m hm hl hf d (a + 1) k (by omega) (by omega) (by omega)
    have hwi : w64 ((a : Int) + 1) = ((a + 1 : Nat) : Int) := by rw [w64_id (by omega) (by omega)]; rfl
    have l1 := least_l1 set m a hm ⟨h1, by omega⟩ hl hf m 1 k (by omega) (by omega) (by omega)
    have l1' : torus_Least.l1 k 1 set m a = _ := l1
    rw [torus_Least.l0, show (m : Int) * (m : Int) = ((m * m : Nat) : Int) by simp, w64_id (n := ((m * m : Nat) : Int)) (by omega) (by omega), if_pos (by simp; omega), l1', hwi, firstA, Option.bind_some]
    cases firstW set m a m 1 with
    | none => exact ih
    | some p => rfl
theorem least_eq (set : List Tile) (m : Nat) (hv : validT set = true) (hm : 1 ≤ m ∧ m ≤ 6) (hf : fewB set.length m = true) {k : Nat} (hk : 300100 < k) : torus_Least k set m = some (match leastS set m with
    | some p => (p, 0)
    | none => (p0P, 6)) := by
  have hl := valid_len hv
  have h36 : m * m ≤ 36 := Nat.mul_le_mul hm.2 hm.2
  unfold torus_Least
  have l0 := least_l0 set m hm.2 hl hf (m * m) 1 k (by omega) (by omega) (by omega)
  have l0' : torus_Least.l0 k 1 set m = _ := l0
  rw [tile_valid set (by omega) (by omega), hv, Option.bind_some, if_neg (by simp), if_neg (by simp; omega), few_eq set m (by omega) (by omega) (by omega), hf, Option.bind_some, if_neg (by simp), l0', Option.bind_some]
  unfold leastS
  cases firstA set m (m * m) 1 <;> rfl
theorem firstW_some {set : List Tile} {m a : Nat} : ∀ {d w : Nat} {p : Pattern}, firstW set m a d w = some p → ∃ v, w ≤ v ∧ v < w + d ∧ tryW set m a v = some p
  | 0, w, p, h => by cases h
  | d + 1, w, p, h => by
    rw [firstW] at h
    cases ht : tryW set m a w with
    | some q => rw [ht] at h; injection h with h; subst h; exact ⟨w, by omega, by omega, ht⟩
    | none =>
      rw [ht] at h
      obtain ⟨v, h1, h2, h3⟩ := firstW_some h
      exact ⟨v, by omega, by omega, h3⟩
theorem firstW_none {set : List Tile} {m a : Nat} : ∀ {d w : Nat}, firstW set m a d w = none → ∀ v, w ≤ v → v < w + d → tryW set m a v = none
  | 0, w, h, v, h1, h2 => by omega
  | d + 1, w, h, v, h1, h2 => by
    rw [firstW] at h
    cases ht : tryW set m a w with
    | some q => rw [ht] at h; cases h
    | none =>
      rw [ht] at h
      by_cases hv : v = w
      · rw [hv]; exact ht
      · exact firstW_none h v (by omega) (by omega)
theorem firstA_some {set : List Tile} {m : Nat} : ∀ {d a : Nat} {p : Pattern}, firstA set m d a = some p → ∃ b, a ≤ b ∧ b < a + d ∧ firstW set m b m 1 = some p ∧ ∀ c, a ≤ c → c < b → firstW set m c m 1 = none
  | 0, a, p, h => by cases h
  | d + 1, a, p, h => by
    rw [firstA] at h
    cases ht : firstW set m a m 1 with
    | some q => rw [ht] at h; injection h with h; subst h; exact ⟨a, by omega, by omega, ht, fun c _ _ => by omega⟩
    | none =>
      rw [ht] at h
      obtain ⟨v, h1, h2, h3, h4⟩ := firstA_some h
      refine ⟨v, by omega, by omega, h3, fun c hc hcv => ?_⟩
      by_cases he : c = a
      · rw [he]; exact ht
      · exact h4 c (by omega) hcv
theorem tryW_some {set : List Tile} {m a w : Nat} {p : Pattern} (hw : 1 ≤ w ∧ w ≤ 8) (ha : 1 ≤ a) (h : tryW set m a w = some p) : a % w = 0 ∧ 1 ≤ a / w ∧ a / w ≤ m ∧ ∃ f, TorF set w (a / w) f ∧ p = patR w (a / w) f := by
  unfold tryW at h
  split at h
  · rename_i hc
    rw [Option.map_eq_some_iff] at h
    obtain ⟨l, hl, rfl⟩ := h
    have hq1 : 1 ≤ a / w := by
      rcases Nat.eq_zero_or_pos (a / w) with h0 | h0
      · have := Nat.div_add_mod a w
        rw [h0, hc.1, Nat.mul_zero] at this; omega
      · exact h0
    obtain ⟨f, hf, hp⟩ := find_some hw hq1 hl
    exact ⟨hc.1, hq1, hc.2, f, hf, hp⟩
  · cases h
theorem tryW_none {set : List Tile} {m w h : Nat} (hw : 1 ≤ w ∧ w ≤ 8) (hh : 1 ≤ h ∧ h ≤ m) (hn : tryW set m (h * w) w = none) (f : Nat → List Nat) : ¬ TorF set w h f := by
  unfold tryW at hn
  have e1 : h * w / w = h := Nat.mul_div_cancel _ (by omega)
  rw [Nat.mul_mod_left, e1, if_pos ⟨rfl, hh.2⟩, Option.map_eq_none_iff] at hn
  exact find_none hw hh.1 hn f
theorem least_some {set : List Tile} {m : Nat} (hm : m ≤ 6) {p : Pattern} (h : leastS set m = some p) : ∃ w h f, (1 ≤ w ∧ w ≤ m) ∧ (1 ≤ h ∧ h ≤ m) ∧ TorF set w h f ∧ p = patR w h f ∧ ∀ w' h', 1 ≤ w' → w' ≤ m → 1 ≤ h' → h' ≤ m → h' * w' < h * w → ∀ f', ¬ TorF set w' h' f' := by
  obtain ⟨b, b1, b2, b3, b4⟩ := firstA_some h
  obtain ⟨w, w1, w2, w3⟩ := firstW_some b3
  obtain ⟨h1, h2, h3, f, h4, h5⟩ := tryW_some ⟨w1, by omega⟩ b1 w3
  refine ⟨w, b / w, f, ⟨w1, by omega⟩, ⟨h2, h3⟩, h4, h5, fun w' h' a1 a2 a3 a4 hlt f' => ?_⟩
  have hb : b / w * w = b := by
    have := Nat.div_add_mod b w
    rw [h1, Nat.mul_comm] at this; omega
  rw [hb] at hlt
  exact tryW_none ⟨a1, by omega⟩ ⟨a3, a4⟩ (firstW_none (b4 (h' * w') (Nat.mul_pos a3 a1) hlt) w' (by omega) (by omega)) f'
/-! ### the decision -/
end Gp
set_option linter.unusedVariables false
set_option linter.unusedSimpArgs false
namespace Gp
open Gw Gq
/-! ### fillings as grids; turned and renamed sets -/
end Gp
set_option linter.unusedVariables false
set_option linter.unusedSimpArgs false
namespace Gp
open Gw Gq
/-! ### a set with one tile more -/
end Gp
set_option linter.unusedVariables false
set_option linter.unusedSimpArgs false
namespace Gp
open Gw Gq
/-! ### torus.Find -/
theorem awake03_ok (k : Nat) : law03_awake (k + 300) = some true := by kernel_rfl
theorem power_l0 (b n : Nat) (hb : b ≤ 1000000) (hn : n ≤ 1000) : ∀ (d i k : Nat), i + d = n → d < k → ref02_Power.l0 k (min (b ^ i) 1000000 : Nat) i b n = some ((min (b ^ n) 1000000 : Nat) : Int)
  | 0, i, k, e, hk => by
    obtain ⟨k, rfl⟩ : ∃ m, k = m + 1 := ⟨k - 1, by omega⟩
    have : i = n := by omega
    subst this
    rw [ref02_Power.l0, if_neg (by simp)]
  | d + 1, i, k, e, hk => by
    obtain ⟨k, rfl⟩ : ∃ m, k = m + 1 := ⟨k - 1, by omega⟩
    have ih := power_l0 b n hb hn d (i + 1) k (by omega) (by omega)
    have hwi : w64 ((i : Int) + 1) = ((i + 1 : Nat) : Int) := by rw [w64_id (by omega) (by omega)]; rfl
    have hm : (min (b ^ i) 1000000) * b ≤ 1000000 * 1000000 := Nat.mul_le_mul (Nat.min_le_right _ _) hb
    have hmul : ((min (b ^ i) 1000000 : Nat) : Int) * (b : Int) = (((min (b ^ i) 1000000) * b : Nat) : Int) := (Int.natCast_mul _ _).symm
    have key : min (min (b ^ i) 1000000 * b) 1000000 = min (b ^ (i + 1)) 1000000 := by
      rw [Nat.pow_succ]
      by_cases hx : b ^ i ≤ 1000000
      · rw [Nat.min_eq_left hx]
      · rw [Nat.min_eq_right (by omega : 1000000 ≤ b ^ i)]
        have h0 : 0 < b := by
          rcases Nat.eq_zero_or_pos b with h0 | h0
          · exfalso; subst h0
            have := Nat.pow_le_pow_left (by omega : 0 ≤ 1) i
            rw [Nat.one_pow] at this; omega
          · exact h0
        have a1 : 1000000 ≤ 1000000 * b := Nat.le_mul_of_pos_right _ h0
        have a2 : b ^ i ≤ b ^ i * b := Nat.le_mul_of_pos_right _ h0
        rw [Nat.min_eq_right a1, Nat.min_eq_right (by omega)]
    obtain ⟨M, hM⟩ : ∃ M, min (b ^ i) 1000000 * b = M := ⟨_, rfl⟩
    rw [hM] at hm hmul key
    have hmin : minI (M : Int) 1000000 = ((min (b ^ (i + 1)) 1000000 : Nat) : Int) := by
      rw [← key]; unfold minI; split <;> omega
    rw [ref02_Power.l0, if_pos (by simp; omega), hmul, w64_id (n := (M : Int)) (by omega) (by omega), hmin, hwi]
    exact ih
theorem power_eq (b n : Nat) (hb : b ≤ 1000000) (hn : n ≤ 1000) {k : Nat} (hk : n < k) : ref02_Power k b n = some ((min (b ^ n) 1000000 : Nat) : Int) := by
  have := power_l0 b n hb hn n 0 k (by omega) hk
  rw [Nat.pow_zero] at this
  have this : ref02_Power.l0 k 1 0 b n = _ := this
  unfold ref02_Power
  rw [this]; rfl
theorem great_eq (s : List Tile) (hl : s.length ≤ 1000) {w : Nat} (hw : 1 ≤ w ∧ w ≤ 60) {k : Nat} (hk : 1000 < k) : ref02_Great k s w = some (!fewB s.length w) := by
  unfold ref02_Great
  rw [power_eq s.length w (by omega) (by omega) (by omega), Option.bind_some]
  congr 1
  unfold fewB
  by_cases h : (max s.length 1) ^ w ≤ 5000
  · rw [decide_eq_true h]
    have : s.length ^ w ≤ (max s.length 1) ^ w := Nat.pow_le_pow_left (by omega) w
    exact decide_eq_false (by omega)
  · rw [decide_eq_false h]
    have : s.length ^ w = (max s.length 1) ^ w := by
      rcases Nat.eq_zero_or_pos s.length with h0 | h0
      · exfalso; rw [h0] at h; exact h (by simp)
      · rw [show max s.length 1 = s.length by omega]
    exact decide_eq_true (by omega)
/-! multiples -/
end Gp
set_option linter.unusedVariables false
set_option linter.unusedSimpArgs false
namespace Gp
open Gw Gq
/-! ### a torus is no higher than there are words -/
end Gp
set_option linter.unusedVariables false
set_option linter.unusedSimpArgs false
namespace Gp
open Gw Gq
/-! ### the reference's colours -/
def atS (l : List Int) (n : Int) : Int := if n ∈ l then (l.idxOf n : Int) else -1
theorem at_l0 (l : List Int) (n : Int) (hl : l.length ≤ 1000000) : ∀ (d i k : Nat), i + d = l.length → d < k → ref02_at.l0 k i l n = some (if n ∈ l.drop i then .inl (((i + (l.drop i).idxOf n : Nat)) : Int) else .inr ())
  | 0, i, k, e, hk => by
    obtain ⟨k, rfl⟩ : ∃ m, k = m + 1 := ⟨k - 1, by omega⟩
    rw [ref02_at.l0, if_neg (by simp; omega), List.drop_eq_nil_of_le (by omega)]; rfl
  | d + 1, i, k, e, hk => by
    obtain ⟨k, rfl⟩ : ∃ m, k = m + 1 := ⟨k - 1, by omega⟩
    have hlt : i < l.length := by omega
    have hwi : w64 ((i : Int) + 1) = ((i + 1 : Nat) : Int) := by rw [w64_id (by omega) (by omega)]; rfl
    rw [ref02_at.l0, if_pos (by simpa using hlt), if_pos (by omega), rdD_get hlt, hwi, at_l0 l n hl d (i + 1) k (by omega) (by omega), List.drop_eq_getElem_cons hlt]
    by_cases he : l[i] = n
    · rw [if_pos (by simpa using he), if_pos (by rw [he]; exact List.mem_cons_self ..)]
      rw [he, List.idxOf_cons_self]; rfl
    · rw [if_neg (by simpa using he)]
      have hm : n ∈ l[i] :: l.drop (i + 1) ↔ n ∈ l.drop (i + 1) := by
        rw [List.mem_cons]
        exact ⟨fun h => h.resolve_left (fun e => he e.symm), .inr⟩
      by_cases hd : n ∈ l.drop (i + 1)
      · rw [if_pos hd, if_pos (hm.2 hd), List.idxOf_cons, show (l[i] == n) = false by simpa using he]
        simp only [cond_false]
        congr 2; omega
      · rw [if_neg hd, if_neg (fun h => hd (hm.1 h))]
theorem at_eq (l : List Int) (n : Int) (hl : l.length ≤ 1000000) {k : Nat} (hk : l.length < k) : ref02_at k l n = some (atS l n) := by
  have := at_l0 l n hl l.length 0 k (by omega) hk
  have this : ref02_at.l0 k 0 l n = _ := this
  unfold ref02_at atS
  rw [this, List.drop_zero]
  by_cases h : n ∈ l
  · rw [if_pos h, if_pos h]; simp [sumb]
  · rw [if_neg h, if_neg h]; rfl
def withS (l : List Int) (n : Int) : List Int := if n ∈ l then l else l ++ [n]
theorem with_eq (l : List Int) (n : Int) (hl : l.length ≤ 1000000) {k : Nat} (hk : l.length < k) : ref02_with k l n = some (withS l n) := by
  unfold ref02_with withS
  rw [at_eq l n hl hk, Option.bind_some]
  unfold atS
  by_cases h : n ∈ l
  · rw [if_pos h, if_neg (by simp), if_pos h]; rfl
  · rw [if_neg h, if_pos (by decide), if_pos (by simp; omega), if_neg h]; rfl
theorem withS_len (l : List Int) (n : Int) : (withS l n).length ≤ l.length + 1 := by unfold withS; split <;> simp
theorem mem_withS (l : List Int) (n x : Int) : x ∈ withS l n ↔ x ∈ l ∨ x = n := by
  unfold withS
  split
  · rename_i h; exact ⟨.inl, fun e => e.elim id (fun e => e ▸ h)⟩
  · simp
theorem withS_nodup {l : List Int} (n : Int) (h : l.Nodup) : (withS l n).Nodup := by
  unfold withS
  split
  · exact h
  · rename_i hn
    rw [List.nodup_append]
    exact ⟨h, List.nodup_cons.2 ⟨by simp, List.nodup_nil⟩, fun a ha b hb => by
      rw [List.mem_singleton] at hb; intro e; exact hn (by rw [← hb, ← e]; exact ha)⟩
def colS2 (l : List Int) (t : Tile) : List Int := withS (withS l t.N) t.S
def colsS (s : List Tile) : List Int := s.foldl colS2 []
theorem colours_eq (s : List Tile) (hl : s.length ≤ 2000) {k : Nat} (hk : 10000 < k) : ref02_Colours k s = some (colsS s) := by
  have := loop_list (F := fun k i (l : List Int) => ref02_Colours.l0 k l i s) s colS2 5000 (fun i l => l.length ≤ 2 * i) id (fun k i l h hk hP => by
    have hwi : w64 ((i : Int) + 1) = ((i + 1 : Nat) : Int) := by rw [w64_id (by omega) (by omega)]; rfl
    have h1 := withS_len l s[i].N
    have h2 := withS_len (withS l s[i].N) s[i].S
    constructor
    · show ref02_Colours.l0 (k + 1) l i s = _
      rw [ref02_Colours.l0, if_pos (by simpa using h), if_pos (by omega), rdD_get h, with_eq l _ (by omega) (by omega), Option.bind_some, with_eq _ _ (by omega) (by omega), Option.bind_some, hwi]; rfl
    · unfold colS2; omega) (fun k l _ => by
    show ref02_Colours.l0 (k + 1) l s.length s = _
    rw [ref02_Colours.l0, if_neg (by simp)]; rfl) [] (by simp) k (by omega)
  have this : ref02_Colours.l0 k [] 0 s = _ := this
  unfold ref02_Colours
  rw [this]; rfl
theorem colsS_spec (s : List Tile) : (colsS s).Nodup ∧ (colsS s).length ≤ 2 * s.length ∧ ∀ c, c ∈ colsS s ↔ ∃ t ∈ s, c = t.N ∨ c = t.S := by
  have key : ∀ (r : List Tile) (l : List Int), l.Nodup → (r.foldl colS2 l).Nodup ∧ (r.foldl colS2 l).length ≤ l.length + 2 * r.length ∧ ∀ c, c ∈ r.foldl colS2 l ↔ c ∈ l ∨ ∃ t ∈ r, c = t.N ∨ c = t.S := by
    intro r
    induction r with
    | nil => intro l h; exact ⟨h, by simp, fun c => by simp⟩
    | cons t r ih =>
      intro l h
      obtain ⟨a, b, c⟩ := ih (colS2 l t) (withS_nodup _ (withS_nodup _ h))
      have h1 := withS_len l t.N
      have h2 := withS_len (withS l t.N) t.S
      refine ⟨a, ?_, fun x => ?_⟩
      · rw [List.foldl_cons, List.length_cons]; unfold colS2 at b ⊢; omega
      · rw [List.foldl_cons, c x]
        unfold colS2
        rw [mem_withS, mem_withS]
        simp only [List.mem_cons, exists_eq_or_imp]
        constructor
        · rintro (((h | h) | h) | h)
          · exact .inl h
          · exact .inr (.inl (.inl h))
          · exact .inr (.inl (.inr h))
          · exact .inr (.inr h)
        · rintro (h | (h | h) | h)
          · exact .inl (.inl (.inl h))
          · exact .inl (.inl (.inr h))
          · exact .inl (.inr h)
          · exact .inr h
  obtain ⟨a, b, c⟩ := key s [] List.nodup_nil
  exact ⟨a, by simpa [colsS] using b, fun x => by rw [colsS, c x]; simp⟩
/-! ### squares fall -/
end Gp
set_option linter.unusedVariables false
set_option linter.unusedSimpArgs false
namespace Gp
open Gw Gq
/-! ### the reference's rows -/
def numW (C : List Int) : List Int → Nat
  | [] => 0
  | x :: l => C.idxOf x + C.length * numW C l
theorem numW_push (C : List Int) : ∀ (l : List Int) (x : Int), numW C (l ++ [x]) = numW C l + C.length ^ l.length * C.idxOf x
  | [], x => by simp [numW]
  | y :: l, x => by
    rw [List.cons_append, numW, numW_push C l x, numW, List.length_cons, Nat.pow_succ, Nat.mul_add, Nat.mul_comm (C.length ^ l.length) C.length, Nat.mul_assoc, Nat.add_assoc]
theorem numW_lt (C : List Int) : ∀ (l : List Int), (∀ x ∈ l, x ∈ C) → numW C l < C.length ^ l.length
  | [], _ => by simp [numW]
  | x :: l, h => by
    have h1 : C.idxOf x < C.length := List.idxOf_lt_length_of_mem (h x (List.mem_cons_self ..))
    have h2 := numW_lt C l (fun y hy => h y (List.mem_cons_of_mem _ hy))
    rw [numW, List.length_cons, Nat.pow_succ, Nat.mul_comm (C.length ^ l.length)]
    have : C.length * (numW C l + 1) ≤ C.length * C.length ^ l.length := Nat.mul_le_mul_left _ h2
    rw [Nat.mul_succ] at this
    omega
theorem idxOf_inj {C : List Int} {x y : Int} (hx : x ∈ C) (hy : y ∈ C) (h : C.idxOf x = C.idxOf y) : x = y := by
  have h1 := List.getElem_idxOf (List.idxOf_lt_length_of_mem hx)
  have h2 := List.getElem_idxOf (List.idxOf_lt_length_of_mem hy)
  rw [← h1, ← h2]
  simp only [h]
theorem numW_inj (C : List Int) : ∀ (a b : List Int), a.length = b.length → (∀ x ∈ a, x ∈ C) → (∀ x ∈ b, x ∈ C) → numW C a = numW C b → a = b
  | [], [], _, _, _, _ => rfl
  | [], _ :: _, h, _, _, _ => by cases h
  | _ :: _, [], h, _, _, _ => by cases h
  | x :: a, y :: b, hl, ha, hb, h => by
    have hx := ha x (List.mem_cons_self ..)
    have hy := hb y (List.mem_cons_self ..)
    have h1 : C.idxOf x < C.length := List.idxOf_lt_length_of_mem hx
    have h2 : C.idxOf y < C.length := List.idxOf_lt_length_of_mem hy
    rw [numW, numW] at h
    have m1 : (C.idxOf x + C.length * numW C a) % C.length = C.idxOf x := by rw [Nat.add_mul_mod_self_left, Nat.mod_eq_of_lt h1]
    have m2 : (C.idxOf y + C.length * numW C b) % C.length = C.idxOf y := by rw [Nat.add_mul_mod_self_left, Nat.mod_eq_of_lt h2]
    have e1 : C.idxOf x = C.idxOf y := by rw [← m1, ← m2, h]
    have e2 : numW C a = numW C b := by
      rw [e1] at h
      have : C.length * numW C a = C.length * numW C b := by omega
      exact Nat.eq_of_mul_eq_mul_left (by omega) this
    rw [idxOf_inj hx hy e1, numW_inj C a b (by simpa using hl) (fun z hz => ha z (List.mem_cons_of_mem _ hz)) (fun z hz => hb z (List.mem_cons_of_mem _ hz)) e2]
abbrev RRow := Row_groutworkref02
def mkF (s : List Tile) (C : List Int) (c : List Nat) : RRow := ⟨cz c, (numW C (sideS s c) : Nat), (numW C (sideN s c) : Nat)⟩
theorem foldl_flat {α β : Type} (p : α → Bool) (g : α → List β) : ∀ (xs : List α) (acc : List β), xs.foldl (fun a i => if p i = true then a ++ g i else a) acc = acc ++ (xs.filter p).flatMap g
  | [], acc => by simp
  | x :: r, acc => by
    rw [List.foldl_cons, foldl_flat p g r, List.filter_cons]
    cases p x <;> simp
theorem atS_mem {C : List Int} {x : Int} (h : x ∈ C) : atS C x = (C.idxOf x : Int) := by unfold atS; rw [if_pos h]
theorem follows_last (s : List Tile) (c : List Nat) (i : Nat) (h : 0 < c.length) : follows s c i = ((tat s (c.getD (c.length - 1) 0)).E == (tat s i).W) := by
  unfold follows
  have : c.getLast? = some (c.getD (c.length - 1) 0) := by
    rw [List.getLast?_eq_getElem?, List.getElem?_eq_getElem (by omega), List.getD_eq_getElem?_getD, List.getElem?_eq_getElem (by omega)]; rfl
  rw [this]
theorem extend_eq (s : List Tile) (C : List Int) (w : Nat) (hl : s.length ≤ 1000) (hC : ∀ i, i < s.length → (tat s i).S ∈ C ∧ (tat s i).N ∈ C) (hC2 : C.length ≤ 2000) (hpow : C.length ^ w ≤ 1000000) (hw : w ≤ 60) : ∀ (n : Nat) (c : List Nat) (out : List RRow) (k : Nat), c.length + n = w → (∀ i ∈ c, i < s.length) → out.length + s.length ^ n ≤ 100000000 → 10000 + n + s.length < k →
    ref02_extend k s C (mkF s C c) w ((C.length ^ c.length : Nat) : Int) out = some (out ++ (rowsL s n c).map (mkF s C))
  | 0, c, out, k, e, hc, ho, hk => by
    obtain ⟨k, rfl⟩ : ∃ m, k = m + 1 := ⟨k - 1, by omega⟩
    have : (mkF s C c).Cells.length = c.length := by simp [mkF, cz]
    rw [ref02_extend, this, if_pos (by simp; omega), if_pos (by rw [Nat.pow_zero] at ho; omega), rowsL]; rfl
  | n + 1, c, out, k, e, hc, ho, hk => by
    obtain ⟨K, rfl⟩ : ∃ m, k = m + 1 := ⟨k - 1, by omega⟩
    have hcl : (mkF s C c).Cells.length = c.length := by simp [mkF, cz]
    rw [ref02_extend, hcl, if_neg (by simp; omega)]
    have hby : C.length ^ (c.length + 1) ≤ 1000000 := by
      rcases Nat.eq_zero_or_pos C.length with h0 | h0
      · rw [h0, Nat.pow_succ, Nat.mul_zero]; omega
      · exact Nat.le_trans (Nat.pow_le_pow_right h0 (by omega)) hpow
    have hS : ∀ d : List Nat, (∀ i ∈ d, i < s.length) → (∀ x ∈ sideS s d, x ∈ C) ∧ (∀ x ∈ sideN s d, x ∈ C) := fun d hd => by
      constructor
      · intro x hx; unfold sideS at hx; obtain ⟨i, hi, rfl⟩ := List.mem_map.1 hx; exact (hC i (hd i hi)).1
      · intro x hx; unfold sideN at hx; obtain ⟨i, hi, rfl⟩ := List.mem_map.1 hx; exact (hC i (hd i hi)).2
    have hlenS : ∀ d : List Nat, (sideS s d).length = d.length ∧ (sideN s d).length = d.length := fun d => by simp [sideS, sideN]
    -- one turn of the loop
    have hst : ∀ (i : Nat), i < s.length → ∀ (k' : Nat) (l : List RRow), 5000 < k' → l.length + s.length ^ n ≤ 100000000 → ref02_extend.l0 (k' + 1) l i s C (mkF s C c) w ((C.length ^ c.length : Nat) : Int) (ref02_extend K) = ref02_extend.l0 k' (if follows s c i = true then l ++ (rowsL s n (c ++ [i])).map (mkF s C) else l) ((i + 1 : Nat) : Int) s C (mkF s C c) w ((C.length ^ c.length : Nat) : Int) (ref02_extend K) := fun i hi k' l hk' hll => by
      have hwi : w64 ((i : Int) + 1) = ((i + 1 : Nat) : Int) := by rw [w64_id (by omega) (by omega)]; rfl
      have et : rdD s (i : Int) z_Tile = tat s i := rdD_nat s i z_Tile
      have hcond : (if (decide ((((mkF s C c).Cells.length : Nat) : Int) > 0)) = true then (if 0 ≤ w64 ((((mkF s C c).Cells.length : Nat) : Int) - 1) ∧ w64 ((((mkF s C c).Cells.length : Nat) : Int) - 1) < (((mkF s C c).Cells.length : Nat) : Int) then (if 0 ≤ (rdD (mkF s C c).Cells (w64 ((((mkF s C c).Cells.length : Nat) : Int) - 1)) 0) ∧ (rdD (mkF s C c).Cells (w64 ((((mkF s C c).Cells.length : Nat) : Int) - 1)) 0) < (s.length : Int) then (some (((rdD s (rdD (mkF s C c).Cells (w64 ((((mkF s C c).Cells.length : Nat) : Int) - 1)) 0) z_Tile).E) != ((rdD s (i : Int) z_Tile).W))) else none) else none) else (some false)) = some (!follows s c i) := by
        rw [hcl]
        rcases Nat.eq_zero_or_pos c.length with h0 | h0
        · rw [if_neg (by simp; exact List.eq_nil_of_length_eq_zero h0), List.eq_nil_of_length_eq_zero h0]; rfl
        · have hw1 : w64 ((c.length : Int) - 1) = ((c.length - 1 : Nat) : Int) := by rw [w64_id (by omega) (by omega)]; omega
          have hrd : rdD (mkF s C c).Cells ((c.length - 1 : Nat) : Int) 0 = ((c.getD (c.length - 1) 0 : Nat) : Int) := by
            rw [rdD_nat]
            show (cz c).getD _ _ = _
            simp [cz, List.getElem?_eq_getElem (show c.length - 1 < c.length by omega)]
          have hlast : c.getD (c.length - 1) 0 < s.length := by
            rw [List.getD_eq_getElem?_getD, List.getElem?_eq_getElem (show c.length - 1 < c.length by omega), Option.getD_some]
            exact hc _ (List.getElem_mem _)
          rw [if_pos (by simp; omega), hw1, if_pos (by omega), hrd, if_pos (by omega), follows_last s c i h0, et, rdD_nat]; rfl
      rw [ref02_extend.l0, if_pos (by simp; omega), if_pos (by omega), hcond, Option.bind_some, hwi]
      cases hf : follows s c i
      · rfl
      · rw [if_neg (by simp)]
        have hci : ∀ j ∈ c ++ [i], j < s.length := fun j hj => by
          rcases List.mem_append.1 hj with h | h
          · exact hc j h
          · rw [List.mem_singleton] at h; rw [h]; exact hi
        have ec : (([] : List Int) ++ (mkF s C c).Cells) ++ [(i : Int)] = cz (c ++ [i]) := by simp [mkF, cz]
        have l1 : ([] : List Int).length + (mkF s C c).Cells.length ≤ 100000000000 := by rw [hcl]; simp; omega
        have l2 : (([] : List Int) ++ (mkF s C c).Cells).length + [(i : Int)].length ≤ 100000000000 := by rw [List.nil_append, hcl]; simp; omega
        have i1 : C.idxOf (tat s i).S < C.length := List.idxOf_lt_length_of_mem (hC i hi).1
        have i2 : C.idxOf (tat s i).N < C.length := List.idxOf_lt_length_of_mem (hC i hi).2
        have b0 : C.length ^ c.length * C.length ≤ 1000000 := by rw [← Nat.pow_succ]; exact hby
        have n1 := numW_lt C _ (hS (c ++ [i]) hci).1
        have n2 := numW_lt C _ (hS (c ++ [i]) hci).2
        rw [(hlenS _).1, List.length_append, List.length_singleton] at n1
        rw [(hlenS _).2, List.length_append, List.length_singleton] at n2
        have pS : numW C (sideS s (c ++ [i])) = numW C (sideS s c) + C.length ^ c.length * C.idxOf (tat s i).S := by
          rw [show sideS s (c ++ [i]) = sideS s c ++ [(tat s i).S] by simp [sideS], numW_push, (hlenS c).1]
        have pN : numW C (sideN s (c ++ [i])) = numW C (sideN s c) + C.length ^ c.length * C.idxOf (tat s i).N := by
          rw [show sideN s (c ++ [i]) = sideN s c ++ [(tat s i).N] by simp [sideN], numW_push, (hlenS c).2]
        have w1 : w64 ((mkF s C c).South + w64 (((C.length ^ c.length : Nat) : Int) * ((C.idxOf (tat s i).S : Nat) : Int))) = ((numW C (sideS s (c ++ [i])) : Nat) : Int) := by
          show w64 (((numW C (sideS s c) : Nat) : Int) + _) = _
          rw [← Int.natCast_mul]
          generalize C.length ^ c.length * C.idxOf (tat s i).S = M at pS
          rw [w64_id (n := (M : Int)) (by omega) (by omega), w64_id (by omega) (by omega)]; omega
        have w2 : w64 ((mkF s C c).North + w64 (((C.length ^ c.length : Nat) : Int) * ((C.idxOf (tat s i).N : Nat) : Int))) = ((numW C (sideN s (c ++ [i])) : Nat) : Int) := by
          show w64 (((numW C (sideN s c) : Nat) : Int) + _) = _
          rw [← Int.natCast_mul]
          generalize C.length ^ c.length * C.idxOf (tat s i).N = M at pN
          rw [w64_id (n := (M : Int)) (by omega) (by omega), w64_id (by omega) (by omega)]; omega
        have w3 : w64 (((C.length ^ c.length : Nat) : Int) * (C.length : Int)) = ((C.length ^ (c ++ [i]).length : Nat) : Int) := by
          rw [← Int.natCast_mul, List.length_append, List.length_singleton, Nat.pow_succ]
          generalize C.length ^ c.length * C.length = M at b0
          rw [w64_id (by omega) (by omega)]
        rw [if_pos l1, if_pos l2, et, at_eq C _ (by omega) (by omega), Option.bind_some, at_eq C _ (by omega) (by omega), Option.bind_some, Option.bind_some, atS_mem (hC i hi).1, atS_mem (hC i hi).2]
        simp only
        rw [ec, w1, w2, w3, show (Row_groutworkref02.mk (cz (c ++ [i])) ((numW C (sideS s (c ++ [i])) : Nat) : Int) ((numW C (sideN s (c ++ [i])) : Nat) : Int)) = mkF s C (c ++ [i]) from rfl]
        rw [extend_eq s C w hl hC hC2 hpow hw n (c ++ [i]) l K (by simp; omega) hci hll (by omega), Option.bind_some, Option.bind_some, if_pos trivial]
    have hrl : ∀ c : List Nat, (rowsL s n c).length ≤ s.length ^ n := fun c => rowsL_len s n c
    have := loop_list (F := fun k' i (l : List RRow) => ref02_extend.l0 k' l i s C (mkF s C c) w ((C.length ^ c.length : Nat) : Int) (ref02_extend K)) (List.range s.length) (fun l i => if follows s c i = true then l ++ (rowsL s n (c ++ [i])).map (mkF s C) else l) 5001 (fun i l => l.length ≤ out.length + i * s.length ^ n) id (fun k' i l h hk' hP => by
      have hi : i < s.length := by simpa using h
      have hm : i * s.length ^ n + s.length ^ n ≤ s.length ^ (n + 1) := by
        rw [← Nat.succ_mul, Nat.pow_succ, Nat.mul_comm]
        exact Nat.mul_le_mul_left _ hi
      constructor
      · show ref02_extend.l0 (k' + 1) l i s C (mkF s C c) w _ (ref02_extend K) = _
        rw [hst i hi k' l (by omega) (by omega), List.getElem_range]
      · rw [List.getElem_range, Nat.succ_mul]
        have := hrl (c ++ [i])
        split
        · rw [List.length_append, List.length_map]; omega
        · omega) (fun k' l _ => by
      show ref02_extend.l0 (k' + 1) l ((List.range s.length).length : Nat) s C (mkF s C c) w _ (ref02_extend K) = _
      rw [ref02_extend.l0, if_neg (by simp)]; rfl) out (by omega) K (by simp; omega)
    have this : ref02_extend.l0 K out 0 s C (mkF s C c) w ((C.length ^ c.length : Nat) : Int) (ref02_extend K) = _ := this
    rw [this, id, Option.bind_some, foldl_flat (fun i => follows s c i), rowsL, List.map_flatMap]
theorem rows_ref (s : List Tile) (w : Nat) (hl : s.length ≤ 1000) (hpow : (colsS s).length ^ w ≤ 1000000) (hrow : s.length ^ w ≤ 1000000) (hw : w ≤ 60) {k : Nat} (hk : 20000 < k) : ref02_Rows k s w = some ((rowsL s w []).map (mkF s (colsS s))) := by
  obtain ⟨_, h2, h3⟩ := colsS_spec s
  have hC : ∀ i, i < s.length → (tat s i).S ∈ colsS s ∧ (tat s i).N ∈ colsS s := fun i hi => by
    have : tat s i ∈ s := by unfold tat; rw [List.getD_eq_getElem?_getD, List.getElem?_eq_getElem hi]; exact List.getElem_mem _
    exact ⟨(h3 _).2 ⟨_, this, .inr rfl⟩, (h3 _).2 ⟨_, this, .inl rfl⟩⟩
  have := extend_eq s (colsS s) w hl hC (by omega) hpow hw w [] [] k (by simp) (by simp) (by simpa using (by omega : s.length ^ w ≤ 100000000)) (by omega)
  unfold ref02_Rows
  rw [colours_eq s (by omega) (by omega), Option.bind_some]
  have e : (Row_groutworkref02.mk ([] : List Int) 0 0) = mkF s (colsS s) [] := rfl
  rw [e]
  have e2 : (((colsS s).length ^ ([] : List Nat).length : Nat) : Int) = 1 := by simp
  rw [e2] at this
  rw [this]; simp
end Gp
set_option linter.unusedVariables false
set_option linter.unusedSimpArgs false
namespace Gp
open Gw Gq
/-! ### the reference's tori -/
structure RowsB (R : List RRow) (M : Nat) : Prop where
  row : ∀ r ∈ R, 0 ≤ r.South ∧ r.South < (M : Int) ∧ 0 ≤ r.North ∧ r.North < (M : Int) ∧ r.Cells.length ≤ 8
  len : R.length ≤ 1000000
def bitsN (M : Nat) (P : Nat → Bool) : List Bool := (List.range M).map P
theorem bitsN_len (M : Nat) (P : Nat → Bool) : (bitsN M P).length = M := by simp [bitsN]
theorem bitsN_get (M : Nat) (P : Nat → Bool) {x : Nat} (h : x < M) (d : Bool) : (bitsN M P).getD x d = P x := by simp [bitsN, List.getElem?_map, List.getElem?_range h]
theorem bitsN_false (M : Nat) : List.replicate M false = bitsN M (fun _ => false) := by
  apply List.ext_getElem
  · simp [bitsN]
  · intro i a b; simp [bitsN]
theorem bitsN_set (M : Nat) (P : Nat → Bool) (x : Nat) : (bitsN M P).set x true = bitsN M (fun y => P y || x == y) := by
  apply List.ext_getElem
  · simp [bitsN]
  · intro i a b
    simp only [bitsN, List.getElem_set, List.getElem_map, List.getElem_range]
    by_cases h : x = i
    · simp [h]
    · simp [h]
def reachN (R : List RRow) (t : Nat) : Nat → Nat → Bool
  | 0, x => t == x
  | n + 1, x => R.any fun r => r.South.toNat == x && reachN R t n r.North.toNat
def walkN (R : List RRow) (t : Nat) : Nat → Nat → List RRow
  | 0, _ => []
  | n + 1, x => match R.find? (fun r => r.South.toNat == x && reachN R t n r.North.toNat) with
    | some r => r :: walkN R t n r.North.toNat
    | none => []
theorem rd_set_same {T : List (List Bool)} {y : Nat} (h : y < T.length) (B : List Bool) : rdD (T.set y B) (y : Int) [] = B := by
  rw [rdD_nat, List.getD_eq_getElem?_getD, List.getElem?_set_self h]; rfl
theorem rd_set_ne {T : List (List Bool)} {y z : Nat} (h : y ≠ z) (B : List Bool) : rdD (T.set y B) (z : Int) [] = rdD T (z : Int) [] := by
  rw [rdD_nat, rdD_nat, List.getD_eq_getElem?_getD, List.getElem?_set_ne h, List.getD_eq_getElem?_getD]
theorem from_l1 {R : List RRow} {M : Nat} (hR : RowsB R M) (T : List (List Bool)) (y : Nat) (hy : y + 1 < T.length) (hT : T.length ≤ 1000) (U : Nat → Bool) (hU : rdD T ((y + 1 : Nat) : Int) [] = bitsN M U) {k : Nat} (hk : R.length < k) :
    ref03_from.l1 k (T.set y (List.replicate M false)) 0 R y = some (T.set y (bitsN M fun x => R.any fun r => r.South.toNat == x && U r.North.toNat)) := by
  have hwy : w64 ((y : Int) + 1) = ((y + 1 : Nat) : Int) := by rw [w64_id (by omega) (by omega)]; rfl
  have hlen := hR.len
  have := loop_list (F := fun k i (P : Nat → Bool) => ref03_from.l1 k (T.set y (bitsN M P)) i R y) R (fun P r => fun x => P x || (r.South.toNat == x && U r.North.toNat)) 0 (fun _ _ => True) (fun P => T.set y (bitsN M P)) (fun k i P h _ _ => by
    refine ⟨?_, trivial⟩
    have hwi : w64 ((i : Int) + 1) = ((i + 1 : Nat) : Int) := by rw [w64_id (by omega) (by omega)]; rfl
    obtain ⟨a1, a2, a3, a4, _⟩ := hR.row R[i] (List.getElem_mem h)
    have eU : rdD (T.set y (bitsN M P)) ((y + 1 : Nat) : Int) [] = bitsN M U := by rw [rd_set_ne (by omega), hU]
    have eP : rdD (T.set y (bitsN M P)) (y : Int) [] = bitsN M P := rd_set_same (by omega) _
    obtain ⟨N, hN⟩ : ∃ N : Nat, R[i].North = N := ⟨R[i].North.toNat, by omega⟩
    obtain ⟨S, hS⟩ : ∃ S : Nat, R[i].South = S := ⟨R[i].South.toNat, by omega⟩
    show ref03_from.l1 (k + 1) (T.set y (bitsN M P)) i R y = _
    rw [ref03_from.l1, if_pos (by simpa using h), hwy, if_pos (by rw [List.length_set]; omega), if_pos (by omega), rdD_get h, eU, hN, if_pos (by rw [bitsN_len]; omega), rdD_nat, bitsN_get M U (by omega), eP, hS, hwi, Int.toNat_natCast, Int.toNat_natCast]
    cases hb : U N
    · rw [if_neg (by simp), Option.bind_some]
      have ez0 : (fun x => P x || (S == x && U (N : Int).toNat)) = P := by
        funext z; rw [Int.toNat_natCast, hb, Bool.and_false, Bool.or_false]
      rw [ez0]
    · rw [if_pos rfl, if_pos (by rw [List.length_set]; omega), if_pos (by rw [bitsN_len]; omega), Option.bind_some, bitsN_set, List.set_set]
      have ez0 : (fun x => P x || (S == x && U (N : Int).toNat)) = fun x => P x || S == x := by
        funext z; rw [Int.toNat_natCast, hb, Bool.and_true]
      rw [ez0]) (fun k P _ => by
    show ref03_from.l1 (k + 1) (T.set y (bitsN M P)) R.length R y = _
    rw [ref03_from.l1, if_neg (by simp)]) (fun _ => false) trivial k (by omega)
  have this : ref03_from.l1 k (T.set y (bitsN M fun _ => false)) 0 R y = _ := this
  rw [bitsN_false, this]
  congr 2
  have key : ∀ (L : List RRow) (P : Nat → Bool), L.foldl (fun P r => fun x => P x || (r.South.toNat == x && U r.North.toNat)) P = fun x => P x || L.any fun r => r.South.toNat == x && U r.North.toNat := by
    intro L
    induction L with
    | nil => intro P; simp
    | cons a L ih => intro P; rw [List.foldl_cons, ih]; funext x; simp [Bool.or_assoc]
  rw [key]
  simp
structure TabOK (R : List RRow) (M h t y : Nat) (T : List (List Bool)) : Prop where
  len : T.length = h + 1
  at_ : ∀ z, y ≤ z → z ≤ h → rdD T (z : Int) [] = bitsN M (reachN R t (h - z))
theorem from_l0 {R : List RRow} {M h t : Nat} (hR : RowsB R M) (hM : M ≤ 1000000) (hh : h ≤ 100) : ∀ (y : Nat) (T : List (List Bool)) (k : Nat), y < h → TabOK R M h t (y + 1) T → R.length + y + 1 < k → ∃ T', ref03_from.l0 k T y R M = some T' ∧ TabOK R M h t 1 T'
  | 0, T, k, hy, hT, hk => by
    obtain ⟨k, rfl⟩ : ∃ m, k = m + 1 := ⟨k - 1, by omega⟩
    exact ⟨T, by rw [ref03_from.l0]; rfl, hT⟩
  | y + 1, T, k, hy, hT, hk => by
    obtain ⟨k, rfl⟩ : ∃ m, k = m + 1 := ⟨k - 1, by omega⟩
    have hlen := hT.len
    have hwy : w64 (((y + 1 : Nat) : Int) - 1) = (y : Int) := by rw [w64_id (by omega) (by omega)]; omega
    have hU := hT.at_ (y + 1 + 1) (Nat.le_refl _) (by omega)
    rw [ref03_from.l0, if_pos (by simp), if_pos (by omega), if_pos (by omega), Int.toNat_natCast, Int.toNat_natCast, from_l1 hR T (y + 1) (by omega) (by omega) _ hU (by omega), Option.bind_some, hwy]
    refine from_l0 hR hM hh y _ k (by omega) ⟨by rw [List.length_set]; exact hlen, fun z z1 z2 => ?_⟩ (by omega)
    by_cases hz : z = y + 1
    · subst hz
      rw [rd_set_same (by omega)]
      congr 1
      rw [show h - (y + 1) = (h - (y + 1 + 1)) + 1 by omega]
      rfl
    · rw [rd_set_ne (by omega)]; exact hT.at_ z (by omega) z2
theorem from_l3 {R : List RRow} {M h t : Nat} (hR : RowsB R M) (hh : h ≤ 100) {T : List (List Bool)} (hT : TabOK R M h t 1 T) (cells : List Int) (hc : cells.length ≤ 1000000) (x y : Nat) (hy : y < h) {k : Nat} (hk : R.length < k) :
    ref03_from.l3 k 0 R T cells x y = some (match R.find? (fun r => r.South.toNat == x && reachN R t (h - (y + 1)) r.North.toNat) with
      | some r => (cells ++ r.Cells, r.North)
      | none => (cells, (x : Int))) := by
  have hlen := hT.len
  have hwy : w64 ((y : Int) + 1) = ((y + 1 : Nat) : Int) := by rw [w64_id (by omega) (by omega)]; rfl
  have hU := hT.at_ (y + 1) (by omega) (by omega)
  have hl6 := hR.len
  have key : ∀ d i k, i + d = R.length → d < k → ref03_from.l3 k (i : Int) R T cells x y = some (match (R.drop i).find? (fun r => r.South.toNat == x && reachN R t (h - (y + 1)) r.North.toNat) with
      | some r => (cells ++ r.Cells, r.North)
      | none => (cells, (x : Int))) := by
    intro d
    induction d with
    | zero =>
      intro i k e hk
      obtain ⟨k, rfl⟩ : ∃ m, k = m + 1 := ⟨k - 1, by omega⟩
      rw [ref03_from.l3, if_neg (by simp; omega), List.drop_eq_nil_of_le (by omega)]; rfl
    | succ d ih =>
      intro i k e hk
      obtain ⟨k, rfl⟩ : ∃ m, k = m + 1 := ⟨k - 1, by omega⟩
      have hi : i < R.length := by omega
      have hwi : w64 ((i : Int) + 1) = ((i + 1 : Nat) : Int) := by rw [w64_id (by omega) (by omega)]; rfl
      obtain ⟨a1, a2, a3, a4, a5⟩ := hR.row R[i] (List.getElem_mem hi)
      obtain ⟨N, hN⟩ : ∃ N : Nat, R[i].North = N := ⟨R[i].North.toNat, by omega⟩
      obtain ⟨S, hS⟩ : ∃ S : Nat, R[i].South = S := ⟨R[i].South.toNat, by omega⟩
      rw [ref03_from.l3, if_pos (by simpa using hi), if_pos (show 0 ≤ (i : Int) ∧ (i : Int) < (R.length : Int) by omega), rdD_get hi, hwy, if_pos (show 0 ≤ ((y + 1 : Nat) : Int) ∧ ((y + 1 : Nat) : Int) < (T.length : Int) by omega), hU, hN, hS, if_pos (show 0 ≤ (N : Int) ∧ (N : Int) < ((bitsN M (reachN R t (h - (y + 1)))).length : Int) by rw [bitsN_len]; omega), rdD_nat, bitsN_get M _ (by omega), hwi, List.drop_eq_getElem_cons hi, List.find?_cons, hS, hN, Int.toNat_natCast, Int.toNat_natCast]
      by_cases hSx : S = x
      · subst hSx
        rw [if_pos (by simp), Option.bind_some]
        cases hb : reachN R t (h - (y + 1)) N
        · simp only [Bool.and_false, Bool.false_eq_true, if_false]
          exact ih (i + 1) k (by omega) (by omega)
        · rw [if_pos rfl, if_pos (by omega), if_pos (by omega)]
          simp [hN]
      · rw [if_neg (by rw [beq_iff_eq]; omega), if_pos (show 0 ≤ (i : Int) ∧ (i : Int) < (R.length : Int) by omega), Option.bind_some, if_neg (by simp), show (S == x) = false by simpa using hSx]
        simp only [Bool.false_and]
        exact ih (i + 1) k (by omega) (by omega)
  have := key R.length 0 k (by omega) hk
  simpa using this
end Gp
set_option linter.unusedVariables false
set_option linter.unusedSimpArgs false
namespace Gp
open Gw Gq
theorem from_l2 {R : List RRow} {M h t : Nat} (hR : RowsB R M) (hM : M ≤ 1000000) (hh : h ≤ 100) {T : List (List Bool)} (hT : TabOK R M h t 1 T) : ∀ (n y x : Nat) (cells : List Int) (k : Nat), y + n = h → 1 ≤ y → cells.length ≤ 8 * y → x < M → reachN R t n x = true → R.length + n + 2 < k →
    ref03_from.l2 k cells x y R h T = some (cells ++ (walkN R t n x).flatMap (·.Cells))
  | 0, y, x, cells, k, e, h1, hc, hx, hr, hk => by
    obtain ⟨k, rfl⟩ : ∃ m, k = m + 1 := ⟨k - 1, by omega⟩
    rw [ref03_from.l2, if_neg (by simp; omega), walkN]; simp
  | n + 1, y, x, cells, k, e, h1, hc, hx, hr, hk => by
    obtain ⟨k, rfl⟩ : ∃ m, k = m + 1 := ⟨k - 1, by omega⟩
    have hwi : w64 ((y : Int) + 1) = ((y + 1 : Nat) : Int) := by rw [w64_id (by omega) (by omega)]; rfl
    rw [ref03_from.l2, if_pos (by simp; omega), from_l3 hR hh hT cells (by omega) x y (by omega) (by omega), Option.bind_some, hwi, show h - (y + 1) = n by omega, walkN]
    cases hf : R.find? (fun r => r.South.toNat == x && reachN R t n r.North.toNat) with
    | none =>
      exfalso
      rw [reachN, List.any_eq_true] at hr
      obtain ⟨r, hrm, hrp⟩ := hr
      exact absurd hrp (by simpa using List.find?_eq_none.1 hf r hrm)
    | some r =>
      obtain ⟨a1, a2, a3, a4, a5⟩ := hR.row r (List.mem_of_find?_eq_some hf)
      have hp := List.find?_some hf
      rw [Bool.and_eq_true] at hp
      obtain ⟨N, hN⟩ : ∃ N : Nat, r.North = N := ⟨r.North.toNat, by omega⟩
      have hp2 := hp.2
      rw [hN, Int.toNat_natCast] at hp2
      simp only
      rw [hN, from_l2 hR hM hh hT n (y + 1) N (cells ++ r.Cells) k (by omega) (by omega) (by rw [List.length_append]; omega) (by omega) hp2 (by omega), Int.toNat_natCast]
      simp
def fromS (R : List RRow) (w h : Nat) (r : RRow) : Option Pattern := if reachN R r.South.toNat (h - 1) r.North.toNat = true then some ⟨w, h, r.Cells ++ (walkN R r.South.toNat (h - 1) r.North.toNat).flatMap (·.Cells)⟩ else none
theorem from_eq {R : List RRow} {M w h : Nat} (hR : RowsB R M) (hM : M ≤ 1000000) (hh : 1 ≤ h ∧ h ≤ 100) {i : Nat} (hi : i < R.length) {k : Nat} (hk : R.length + h + 10 < k) :
    ref03_from k R i M w h = some (match fromS R w h R[i] with
      | some p => (p, true)
      | none => (p0P, false)) := by
  obtain ⟨a1, a2, a3, a4, a5⟩ := hR.row R[i] (List.getElem_mem hi)
  obtain ⟨N, hN⟩ : ∃ N : Nat, R[i].North = N := ⟨R[i].North.toNat, by omega⟩
  obtain ⟨S, hS⟩ : ∃ S : Nat, R[i].South = S := ⟨R[i].South.toNat, by omega⟩
  have hwh : w64 ((h : Int) + 1) = ((h + 1 : Nat) : Int) := by rw [w64_id (by omega) (by omega)]; rfl
  have hwm : w64 ((h : Int) - 1) = ((h - 1 : Nat) : Int) := by rw [w64_id (by omega) (by omega)]; omega
  have hrl : (List.replicate (h + 1) ([] : List Bool)).length = h + 1 := by simp
  obtain ⟨T0, hT0⟩ : ∃ T0, (List.replicate (h + 1) ([] : List Bool)).set h (List.replicate M false) = T0 := ⟨_, rfl⟩
  have hl0 : T0.length = h + 1 := by rw [← hT0]; simp
  have hr0 : rdD T0 (h : Int) [] = bitsN M (fun _ => false) := by rw [← hT0, rd_set_same (by simp), bitsN_false]
  have hT : TabOK R M h S (h - 1 + 1) (T0.set h ((bitsN M (fun _ => false)).set S true)) := by
    refine ⟨by rw [List.length_set]; exact hl0, fun z z1 z2 => ?_⟩
    have : z = h := by omega
    subst this
    rw [rd_set_same (by omega), bitsN_set, Nat.sub_self]
    congr 1
  obtain ⟨T, hT1, hT2⟩ := from_l0 hR hM (by omega) (h - 1) _ k (by omega) hT (by omega)
  unfold ref03_from
  rw [hwh, hwm, if_pos (by omega), if_pos (by omega), Int.toNat_natCast, Int.toNat_natCast, Int.toNat_natCast, if_pos (by rw [hrl]; omega), hT0, if_pos (by omega), if_pos (by omega), rdD_get hi, hS, hN, hr0, if_pos (by rw [bitsN_len]; omega), Int.toNat_natCast, hT1, Option.bind_some]
  have ht1 := hT2.at_ 1 (Nat.le_refl _) (by omega)
  have ht1' : rdD T 1 [] = bitsN M (reachN R S (h - 1)) := ht1
  have hTl := hT2.len
  rw [if_pos (by omega), ht1', if_pos (by rw [bitsN_len]; omega), rdD_nat, bitsN_get M _ (by omega)]
  unfold fromS
  rw [hS, hN, Int.toNat_natCast, Int.toNat_natCast]
  cases hb : reachN R S (h - 1) N
  · rfl
  · rw [if_neg (by simp), if_pos (by simp; omega)]
    have := from_l2 hR hM (by omega) hT2 (h - 1) 1 N ([] ++ R[i].Cells) k (by omega) (Nat.le_refl _) (by simp; omega) (by omega) hb (by omega)
    have this : ref03_from.l2 k ([] ++ R[i].Cells) N 1 R h T = _ := this
    rw [this, Option.bind_some, if_pos rfl]; simp
theorem find_l0r {R : List RRow} {M w h : Nat} (hR : RowsB R M) (hM : M ≤ 1000000) (hh : 1 ≤ h ∧ h ≤ 100) : ∀ (d i k : Nat), i + d = R.length → R.length + h + 20 + d < k → ref03_Find.l0 k i w h R M = some (match (R.drop i).findSome? (fromS R w h) with
    | some p => .inl (p, true)
    | none => .inr ())
  | 0, i, k, e, hk => by
    obtain ⟨k, rfl⟩ : ∃ m, k = m + 1 := ⟨k - 1, by omega⟩
    rw [ref03_Find.l0, if_neg (by simp; omega), List.drop_eq_nil_of_le (by omega)]; rfl
  | d + 1, i, k, e, hk => by
    obtain ⟨k, rfl⟩ : ∃ m, k = m + 1 := ⟨k - 1, by omega⟩
    have hi : i < R.length := by omega
    have hl6 := hR.len
    have hwi : w64 ((i : Int) + 1) = ((i + 1 : Nat) : Int) := by rw [w64_id (by omega) (by omega)]; rfl
    rw [ref03_Find.l0, if_pos (by simpa using hi), from_eq hR hM hh hi (by omega), Option.bind_some, hwi, List.drop_eq_getElem_cons hi, List.findSome?_cons]
    cases hf : fromS R w h R[i] with
    | none => simp only; rw [if_neg (by simp)]; exact find_l0r hR hM hh d (i + 1) k (by omega) (by omega)
    | some p => rfl
/-! program and reference -/
def ringC (s : List Tile) (w : Nat) : List (List Nat) := (rowsL s w []).filter fun c => (tat s (c.getD (w - 1) 0)).E == (tat s (c.getD 0 0)).W
theorem ringC_row {s : List Tile} {w : Nat} {c : List Nat} (h : c ∈ ringC s w) : RowOK s w c := by
  unfold ringC at h
  exact (mem_rowsL s w c).1 (List.mem_filter.1 h).1
theorem ringL_C (s : List Tile) {w : Nat} (hw : 1 ≤ w) : ringL s w = (ringC s w).map (mkR s) := by
  unfold ringL ringC allR
  rw [List.filter_map]
  congr 1
  apply List.filter_congr
  intro c hc
  have hl := ((mem_rowsL s w c).1 hc).len
  have h1 : c.headD 0 = c.getD 0 0 := by cases c <;> simp
  have h2 : c.getLastD 0 = c.getD (w - 1) 0 := by
    rw [List.getLastD_eq_getLast?, List.getLast?_eq_getElem?, hl, List.getD_eq_getElem?_getD]
  show ((tat s (c.headD 0)).W == (tat s (c.getLastD 0)).E) = _
  rw [h1, h2]
  rw [Bool.eq_iff_iff, beq_iff_eq, beq_iff_eq]
  exact eq_comm
theorem reach_same {s : List Tile} {C : List Int} {w : Nat} (hw : w ≤ 8) (hC : ∀ i, i < s.length → (tat s i).S ∈ C ∧ (tat s i).N ∈ C) {B : List (List Nat)} (hB : ∀ c ∈ B, RowOK s w c) {t : List Int} (ht : t.length = w ∧ ∀ x ∈ t, x ∈ C) : ∀ (n : Nat) (x : List Int), x.length = w → (∀ y ∈ x, y ∈ C) → reachB (B.map (mkR s)) (wordOf t) n (wordOf x) = reachN (B.map (mkF s C)) (numW C t) n (numW C x)
  | 0, x, hx, hxC => by
    rw [reachB, reachN, Bool.eq_iff_iff, decide_eq_true_eq, beq_iff_eq, wordOf_inj (by omega) (by omega)]
    exact ⟨fun e => by rw [e], fun e => (numW_inj C t x (by omega) ht.2 hxC e).symm⟩
  | n + 1, x, hx, hxC => by
    rw [reachB, reachN, List.any_map, List.any_map]
    apply Bool.eq_iff_iff.2
    rw [List.any_eq_true, List.any_eq_true]
    have key : ∀ c ∈ B, (((fun r : Row => decide (r.South = wordOf x) && reachB (B.map (mkR s)) (wordOf t) n r.North) ∘ mkR s) c) = (((fun r : RRow => r.South.toNat == numW C x && reachN (B.map (mkF s C)) (numW C t) n r.North.toNat) ∘ mkF s C) c) := fun c hc => by
      have hr := hB c hc
      have lS : (sideS s c).length = w := by simp [sideS, hr.len]
      have lN : (sideN s c).length = w := by simp [sideN, hr.len]
      have hcl : ∀ i ∈ c, i < s.length := fun i hi => by
        obtain ⟨j, hj, rfl⟩ := List.getElem_of_mem hi
        have := hr.lt j (by rw [← hr.len]; exact hj)
        rwa [List.getD_eq_getElem?_getD, List.getElem?_eq_getElem hj, Option.getD_some] at this
      have mS : ∀ y ∈ sideS s c, y ∈ C := fun y hy => by unfold sideS at hy; obtain ⟨i, hi, rfl⟩ := List.mem_map.1 hy; exact (hC i (hcl i hi)).1
      have mN : ∀ y ∈ sideN s c, y ∈ C := fun y hy => by unfold sideN at hy; obtain ⟨i, hi, rfl⟩ := List.mem_map.1 hy; exact (hC i (hcl i hi)).2
      have ih := reach_same hw hC hB ht n (sideN s c) lN mN
      show (decide (wordOf (sideS s c) = wordOf x) && reachB _ _ n (wordOf (sideN s c))) = (((numW C (sideS s c) : Nat) : Int).toNat == numW C x && reachN _ _ n (((numW C (sideN s c) : Nat) : Int).toNat))
      rw [Int.toNat_natCast, Int.toNat_natCast, ih]
      congr 1
      rw [Bool.eq_iff_iff, decide_eq_true_eq, beq_iff_eq, wordOf_inj (by omega) (by omega)]
      exact ⟨fun e => by rw [e], fun e => numW_inj C _ _ (by omega) mS hxC e⟩
    exact ⟨fun ⟨c, hc, h⟩ => ⟨c, hc, by rw [← key c hc]; exact h⟩, fun ⟨c, hc, h⟩ => ⟨c, hc, by rw [key c hc]; exact h⟩⟩
theorem find_map_eq {α β γ : Type} (f : α → β) (g : α → γ) (p : β → Bool) (q : γ → Bool) : ∀ (B : List α), (∀ c ∈ B, p (f c) = q (g c)) → ∃ o : Option α, (B.map f).find? p = o.map f ∧ (B.map g).find? q = o.map g ∧ ∀ c, o = some c → c ∈ B
  | [], _ => ⟨none, rfl, rfl, fun c h => by cases h⟩
  | a :: B, h => by
    rw [List.map_cons, List.map_cons, List.find?_cons, List.find?_cons, ← h a (List.mem_cons_self ..)]
    cases p (f a) with
    | true => exact ⟨some a, rfl, rfl, fun c e => by injection e with e; rw [← e]; exact List.mem_cons_self ..⟩
    | false =>
      obtain ⟨o, h1, h2, h3⟩ := find_map_eq f g p q B (fun c hc => h c (List.mem_cons_of_mem _ hc))
      exact ⟨o, h1, h2, fun c e => List.mem_cons_of_mem _ (h3 c e)⟩
structure SetC (s : List Tile) (C : List Int) (w : Nat) (B : List (List Nat)) : Prop where
  w8 : w ≤ 8
  col : ∀ i, i < s.length → (tat s i).S ∈ C ∧ (tat s i).N ∈ C
  row : ∀ c ∈ B, RowOK s w c
theorem SetC.mem {s : List Tile} {C : List Int} {w : Nat} {B : List (List Nat)} (h : SetC s C w B) {c : List Nat} (hc : c ∈ B) : (sideS s c).length = w ∧ (sideN s c).length = w ∧ (∀ y ∈ sideS s c, y ∈ C) ∧ (∀ y ∈ sideN s c, y ∈ C) := by
  have hr := h.row c hc
  have hcl : ∀ i ∈ c, i < s.length := fun i hi => by
    obtain ⟨j, hj, rfl⟩ := List.getElem_of_mem hi
    have := hr.lt j (by rw [← hr.len]; exact hj)
    rwa [List.getD_eq_getElem?_getD, List.getElem?_eq_getElem hj, Option.getD_some] at this
  exact ⟨by simp [sideS, hr.len], by simp [sideN, hr.len], fun y hy => by unfold sideS at hy; obtain ⟨i, hi, rfl⟩ := List.mem_map.1 hy; exact (h.col i (hcl i hi)).1, fun y hy => by unfold sideN at hy; obtain ⟨i, hi, rfl⟩ := List.mem_map.1 hy; exact (h.col i (hcl i hi)).2⟩
theorem walk_same {s : List Tile} {C : List Int} {w : Nat} {B : List (List Nat)} (h : SetC s C w B) {t : List Int} (ht : t.length = w ∧ ∀ x ∈ t, x ∈ C) : ∀ (n : Nat) (x : List Int), x.length = w → (∀ y ∈ x, y ∈ C) → reachB (B.map (mkR s)) (wordOf t) n (wordOf x) = true → cellsR (walkT (B.map (mkR s)) (wordOf t) n (wordOf x)) = (walkN (B.map (mkF s C)) (numW C t) n (numW C x)).flatMap (·.Cells)
  | 0, x, hx, hxC, _ => rfl
  | n + 1, x, hx, hxC, hr => by
    obtain ⟨o, h1, h2, h3⟩ := find_map_eq (mkR s) (mkF s C) (fun r : Row => decide (r.South = wordOf x) && reachB (B.map (mkR s)) (wordOf t) n r.North) (fun r : RRow => r.South.toNat == numW C x && reachN (B.map (mkF s C)) (numW C t) n r.North.toNat) B (fun c hc => by
      obtain ⟨lS, lN, mS, mN⟩ := h.mem hc
      have ih := reach_same h.w8 h.col h.row ht n (sideN s c) lN mN
      show (decide (wordOf (sideS s c) = wordOf x) && reachB _ _ n (wordOf (sideN s c))) = (((numW C (sideS s c) : Nat) : Int).toNat == numW C x && reachN _ _ n (((numW C (sideN s c) : Nat) : Int).toNat))
      have hw8 := h.w8
      rw [Int.toNat_natCast, Int.toNat_natCast, ih]
      congr 1
      rw [Bool.eq_iff_iff, decide_eq_true_eq, beq_iff_eq, wordOf_inj (by omega) (by omega)]
      exact ⟨fun e => by rw [e], fun e => numW_inj C _ _ (by omega) mS hxC e⟩)
    rw [walkT, walkN, h1, h2]
    cases o with
    | none =>
      exfalso
      rw [reachB, List.any_eq_true] at hr
      obtain ⟨r, hrm, hrp⟩ := hr
      rw [Option.map_none] at h1
      exact absurd hrp (by simpa using List.find?_eq_none.1 h1 r hrm)
    | some c =>
      have hc := h3 c rfl
      obtain ⟨lS, lN, mS, mN⟩ := h.mem hc
      have hp := List.find?_some h1
      rw [Bool.and_eq_true] at hp
      have ih := walk_same h ht n (sideN s c) lN mN hp.2
      simp only [Option.map_some]
      unfold cellsR at ih ⊢
      rw [List.flatMap_cons, List.flatMap_cons]
      have e1 : (mkR s c).North = wordOf (sideN s c) := rfl
      have e2 : (mkF s C c).North.toNat = numW C (sideN s c) := Int.toNat_natCast _
      rw [e1, e2, ih]; rfl
end Gp
set_option linter.unusedVariables false
set_option linter.unusedSimpArgs false
namespace Gp
open Gw Gq
theorem findSome_if {α β : Type} (q : α → Bool) (v : α → β) : ∀ l : List α, l.findSome? (fun r => if q r = true then some (v r) else none) = (l.find? q).map v
  | [] => rfl
  | a :: l => by
    rw [List.findSome?_cons, List.find?_cons]
    cases q a with
    | true => rfl
    | false => simp only [Bool.false_eq_true, if_false]; exact findSome_if q v l
theorem colsS_col (s : List Tile) : ∀ i, i < s.length → (tat s i).S ∈ colsS s ∧ (tat s i).N ∈ colsS s := fun i hi => by
  obtain ⟨_, _, h3⟩ := colsS_spec s
  have : tat s i ∈ s := by unfold tat; rw [List.getD_eq_getElem?_getD, List.getElem?_eq_getElem hi]; exact List.getElem_mem _
  exact ⟨(h3 _).2 ⟨_, this, .inr rfl⟩, (h3 _).2 ⟨_, this, .inl rfl⟩⟩
theorem ring_setC (s : List Tile) {w : Nat} (h8 : w ≤ 8) : SetC s (colsS s) w (ringC s w) := ⟨h8, colsS_col s, fun c hc => ringC_row hc⟩
theorem rowsB_of {s : List Tile} {C : List Int} {w : Nat} {B : List (List Nat)} (h : SetC s C w B) (hl : B.length ≤ 1000000) : RowsB (B.map (mkF s C)) (C.length ^ w) := by
  refine ⟨fun r hr => ?_, by rw [List.length_map]; exact hl⟩
  obtain ⟨c, hc, rfl⟩ := List.mem_map.1 hr
  obtain ⟨lS, lN, mS, mN⟩ := h.mem hc
  have n1 := numW_lt C _ mS
  have n2 := numW_lt C _ mN
  rw [lS] at n1
  rw [lN] at n2
  have hr := (h.row c hc).len
  have h8 := h.w8
  refine ⟨?_, ?_, ?_, ?_, ?_⟩
  · show (0 : Int) ≤ ((numW C (sideS s c) : Nat) : Int); omega
  · show ((numW C (sideS s c) : Nat) : Int) < ((C.length ^ w : Nat) : Int); omega
  · show (0 : Int) ≤ ((numW C (sideN s c) : Nat) : Int); omega
  · show ((numW C (sideN s c) : Nat) : Int) < ((C.length ^ w : Nat) : Int); omega
  · show (cz c).length ≤ 8; simp [cz]; omega
theorem ringC_len (s : List Tile) (w : Nat) : (ringC s w).length ≤ s.length ^ w := Nat.le_trans (List.length_filter_le _ _) (rowsL_len s w [])
theorem round_eq (s : List Tile) {w : Nat} (hw : 1 ≤ w ∧ w ≤ 8) (hl : s.length ≤ 1000) (hpow : (colsS s).length ^ w ≤ 1000000) (hrow : s.length ^ w ≤ 1000000) {k : Nat} (hk : 1100000 < k) : ref03_round k s w = some ((ringC s w).map (mkF s (colsS s))) := by
  have hwm : w64 ((w : Int) - 1) = ((w - 1 : Nat) : Int) := by rw [w64_id (by omega) (by omega)]; omega
  obtain ⟨B, hB⟩ : ∃ B, rowsL s w [] = B := ⟨_, rfl⟩
  have hBl : B.length ≤ s.length ^ w := by rw [← hB]; exact rowsL_len s w []
  have hBr : ∀ c ∈ B, RowOK s w c := fun c hc => (mem_rowsL s w c).1 (by rw [hB]; exact hc)
  have := loop_list (F := fun k i (l : List RRow) => ref03_round.l0 k l i s w (B.map (mkF s (colsS s)))) B (fun l c => if ((tat s (c.getD (w - 1) 0)).E == (tat s (c.getD 0 0)).W) = true then l ++ [mkF s (colsS s) c] else l) 0 (fun i l => l.length ≤ i) id (fun k i l h _ hP => by
    have hwi : w64 ((i : Int) + 1) = ((i + 1 : Nat) : Int) := by rw [w64_id (by omega) (by omega)]; rfl
    have hr := hBr B[i] (List.getElem_mem h)
    have hlen := hr.len
    have hi : i < (B.map (mkF s (colsS s))).length := by rw [List.length_map]; exact h
    have e1 : (B.map (mkF s (colsS s)))[i] = mkF s (colsS s) B[i] := List.getElem_map ..
    have ecl : (mkF s (colsS s) B[i]).Cells.length = w := by show (cz B[i]).length = w; simp [cz, hlen]
    have g : ∀ j : Nat, j < w → rdD (mkF s (colsS s) B[i]).Cells (j : Int) 0 = ((B[i].getD j 0 : Nat) : Int) := fun j hj => by
      rw [rdD_nat]
      show (cz B[i]).getD j 0 = _
      simp [cz, List.getElem?_eq_getElem (show j < B[i].length by omega)]
    have g0 : rdD (mkF s (colsS s) B[i]).Cells (0 : Int) 0 = ((B[i].getD 0 0 : Nat) : Int) := g 0 (by omega)
    have l1 := hr.lt (w - 1) (by omega)
    have l2 := hr.lt 0 (by omega)
    constructor
    · show ref03_round.l0 (k + 1) l i s w (B.map (mkF s (colsS s))) = _
      rw [ref03_round.l0, if_pos (by simpa using h), if_pos (by omega), rdD_get hi, e1, hwm, if_pos (by rw [ecl]; omega), g (w - 1) (by omega), if_pos (by omega), if_pos (by rw [ecl]; omega), g0, if_pos (by omega), rdD_nat, rdD_nat, hwi]
      show Option.bind (if ((tat s (B[i].getD (w - 1) 0)).E == (tat s (B[i].getD 0 0)).W) = true then _ else _) _ = _
      cases hb : ((tat s (B[i].getD (w - 1) 0)).E == (tat s (B[i].getD 0 0)).W)
      · rfl
      · rw [if_pos rfl, if_pos (by omega)]; rfl
    · split
      · rw [List.length_append]; simp; omega
      · omega) (fun k l _ => by
    show ref03_round.l0 (k + 1) l B.length s w (B.map (mkF s (colsS s))) = _
    rw [ref03_round.l0, if_neg (by simp)]; rfl) [] (Nat.le_refl _) k (by omega)
  have this : ref03_round.l0 k [] 0 s w (B.map (mkF s (colsS s))) = _ := this
  unfold ref03_round ringC
  rw [rows_ref s w hl hpow hrow (by omega) (by omega), Option.bind_some, hB, this, id, Option.bind_some]
  have key : ∀ (L : List (List Nat)) (acc : List RRow), L.foldl (fun l c => if ((tat s (c.getD (w - 1) 0)).E == (tat s (c.getD 0 0)).W) = true then l ++ [mkF s (colsS s) c] else l) acc = acc ++ (L.filter fun c => (tat s (c.getD (w - 1) 0)).E == (tat s (c.getD 0 0)).W).map (mkF s (colsS s)) := by
    intro L
    induction L with
    | nil => intro acc; simp
    | cons c L ih =>
      intro acc
      rw [List.foldl_cons, ih, List.filter_cons]
      cases ((tat s (c.getD (w - 1) 0)).E == (tat s (c.getD 0 0)).W) <;> simp
  rw [key]; simp
theorem find_same (s : List Tile) {w h : Nat} (hw : 1 ≤ w ∧ w ≤ 8) (hh : 1 ≤ h ∧ h ≤ 100) (hl : s.length ≤ 1000) (hpow : (colsS s).length ^ w ≤ 1000000) (hrow : s.length ^ w ≤ 1000000) {k : Nat} (hk : 2100000 < k) : ref03_Find k s w h = some (match findS (ringL s w) h with
    | some l => (⟨w, h, cellsR l⟩, true)
    | none => (p0P, false)) := by
  have hS := ring_setC s hw.2
  have hrl := ringC_len s w
  have hR := rowsB_of hS (by omega)
  obtain ⟨_, h2, _⟩ := colsS_spec s
  have := find_l0r (w := w) hR hpow hh ((ringC s w).map (mkF s (colsS s))).length 0 k (by omega) (by rw [List.length_map]; omega)
  have this : ref03_Find.l0 k 0 w h ((ringC s w).map (mkF s (colsS s))) (((colsS s).length ^ w : Nat) : Int) = _ := this
  unfold ref03_Find
  rw [round_eq s hw hl hpow hrow (by omega), Option.bind_some, colours_eq s (by omega) (by omega), Option.bind_some, power_eq _ w (by omega) (by omega) (by omega), Nat.min_eq_left hpow, Option.bind_some, this, Option.bind_some, List.drop_zero]
  have e1 : ((ringC s w).map (mkF s (colsS s))).findSome? (fromS ((ringC s w).map (mkF s (colsS s))) w h) = (((ringC s w).map (mkF s (colsS s))).find? (fun r => reachN ((ringC s w).map (mkF s (colsS s))) r.South.toNat (h - 1) r.North.toNat)).map fun r => ⟨w, h, r.Cells ++ (walkN ((ringC s w).map (mkF s (colsS s))) r.South.toNat (h - 1) r.North.toNat).flatMap (·.Cells)⟩ := findSome_if _ _ _
  obtain ⟨o, o1, o2, o3⟩ := find_map_eq (mkR s) (mkF s (colsS s)) (fun f : Row => reachB (ringL s w) f.South (h - 1) f.North) (fun r : RRow => reachN ((ringC s w).map (mkF s (colsS s))) r.South.toNat (h - 1) r.North.toNat) (ringC s w) (fun c hc => by
    obtain ⟨lS, lN, mS, mN⟩ := hS.mem hc
    show reachB (ringL s w) (wordOf (sideS s c)) (h - 1) (wordOf (sideN s c)) = reachN _ (((numW (colsS s) (sideS s c) : Nat) : Int).toNat) (h - 1) (((numW (colsS s) (sideN s c) : Nat) : Int).toNat)
    rw [Int.toNat_natCast, Int.toNat_natCast, ringL_C s hw.1]
    exact reach_same hw.2 hS.col hS.row ⟨lS, mS⟩ (h - 1) _ lN mN)
  rw [e1, o2]
  unfold findS
  rw [show ((ringL s w).find? fun f => reachB (ringL s w) f.South (h - 1) f.North) = ((ringC s w).map (mkR s)).find? (fun f => reachB (ringL s w) f.South (h - 1) f.North) by rw [← ringL_C s hw.1], o1]
  cases o with
  | none => rfl
  | some c =>
    have hc := o3 c rfl
    obtain ⟨lS, lN, mS, mN⟩ := hS.mem hc
    have hp := List.find?_some o1
    have hp : reachB (ringL s w) (wordOf (sideS s c)) (h - 1) (wordOf (sideN s c)) = true := hp
    rw [ringL_C s hw.1] at hp
    have hwk := walk_same hS ⟨lS, mS⟩ (h - 1) _ lN mN hp
    show some ((⟨w, h, cz c ++ (walkN _ (((numW (colsS s) (sideS s c) : Nat) : Int).toNat) (h - 1) (((numW (colsS s) (sideN s c) : Nat) : Int).toNat)).flatMap (·.Cells)⟩ : Pattern), true) = some (⟨w, h, cellsR (mkR s c :: walkT (ringL s w) (wordOf (sideS s c)) (h - 1) (wordOf (sideN s c)))⟩, true)
    rw [Int.toNat_natCast, Int.toNat_natCast, ← hwk, ringL_C s hw.1]; rfl
theorem heavy03 (s : List Tile) (hl : s.length ≤ 1000) {w : Nat} (hw : w ≤ 60) {k : Nat} (hk : 10000 < k) : ∃ b, ref03_Heavy k s w = some b ∧ (b = false → s.length ≤ 40 ∧ (colsS s).length ^ w ≤ 800 ∧ s.length ^ w ≤ 8000) := by
  obtain ⟨_, hc, _⟩ := colsS_spec s
  unfold ref03_Heavy
  by_cases h : s.length ≤ 40
  · have h0 : decide ((s.length : Int) > 40) = false := decide_eq_false (by omega)
    rw [h0, if_neg (by simp), colours_eq s (by omega) hk, Option.bind_some, power_eq (colsS s).length w (by omega) (by omega) (by omega), Option.bind_some, Option.bind_some]
    cases h1 : decide (((min ((colsS s).length ^ w) 1000000 : Nat) : Int) > 800)
    · rw [if_neg (by simp), power_eq s.length w (by omega) (by omega) (by omega), Option.bind_some, Option.bind_some]
      refine ⟨_, rfl, fun hb => ?_⟩
      have h1 := of_decide_eq_false h1
      have hb := of_decide_eq_false hb
      omega
    · rw [if_pos rfl]; exact ⟨true, rfl, fun h => by cases h⟩
  · have h0 : decide ((s.length : Int) > 40) = true := decide_eq_true (by omega)
    rw [h0, if_pos rfl, Option.bind_some, if_pos rfl]; exact ⟨true, rfl, fun h => by cases h⟩
theorem no_eq (e : Int) {k : Nat} (hk : 0 < k) : law03_no k p0P e e = some true := by
  unfold law03_no
  rw [if_pos (by simp)]
  have : ref01_SamePattern k p0P (Pattern.mk 0 0 ([] : List Int)) = some true := samePat p0P (by simp [p0P]) (by simpa [p0P] using hk)
  rw [this]; rfl
theorem is_none {k : Nat} (hk : 0 < k) : law03_is k p0P 6 p0P false = some true := by
  unfold law03_is
  rw [if_pos (by decide), if_pos (by decide)]
  have : ref01_SamePattern k p0P (Pattern.mk 0 0 ([] : List Int)) = some true := samePat p0P (by simp [p0P]) (by simpa [p0P] using hk)
  rw [this]; rfl
theorem is_some (p : Pattern) (hp : p.Cells.length ≤ 1000000) {k : Nat} (hk : 1000001 < k) : law03_is k p 0 p true = some true := by
  unfold law03_is
  rw [if_neg (by decide), if_pos (by decide), samePat p hp (by omega)]; rfl
/-! ### the reference's least torus -/
theorem leastR_l1 (s : List Tile) (m a : Nat) (hm : m ≤ 6) (ha : 1 ≤ a ∧ a ≤ 36) (hl : s.length ≤ 1000) (hpow : ∀ w, w ≤ m → (colsS s).length ^ w ≤ 1000000) (hrow : ∀ w, w ≤ m → s.length ^ w ≤ 1000000) : ∀ (d w k : Nat), w + d = m + 1 → 1 ≤ w → 2100001 + d < k → ref03_Least.l1 k w s m a = some (match firstW s m a d w with
    | some p => .inl (p, true)
    | none => .inr ())
  | 0, w, k, e, h1, hk => by
    obtain ⟨k, rfl⟩ : ∃ m, k = m + 1 := ⟨k - 1, by omega⟩
    rw [ref03_Least.l1, if_neg (by simp; omega)]; rfl
  | d + 1, w, k, e, h1, hk => by
    obtain ⟨k, rfl⟩ : ∃ m, k = m + 1 := ⟨k - 1, by omega⟩
    have ih := leastR_l1 s m a hm ha hl hpow hrow d (w + 1) k (by omega) (by omega) (by omega)
    have e1 : Int.tmod (a : Int) (w : Int) = ((a % w : Nat) : Int) := rfl
    have e2 : Int.tdiv (a : Int) (w : Int) = ((a / w : Nat) : Int) := rfl
    have hq : a / w ≤ a := Nat.div_le_self _ _
    have hq0 : (0 : Int) ≤ ((a / w : Nat) : Int) := Int.natCast_nonneg _
    have hq3 : ((a / w : Nat) : Int) ≤ 36 := Int.ofNat_le.2 (Nat.le_trans hq ha.2)
    have hwi : w64 ((w : Int) + 1) = ((w + 1 : Nat) : Int) := by rw [w64_id (by omega) (by omega)]; rfl
    rw [ref03_Least.l1, if_pos (by simp; omega), if_pos (by omega), e1, e2, w64_id (n := ((a / w : Nat) : Int)) (by omega) (by omega), hwi, firstW]
    unfold tryW
    by_cases hc : a % w = 0 ∧ a / w ≤ m
    · have hq1 : 1 ≤ a / w := by
        rcases Nat.eq_zero_or_pos (a / w) with h0 | h0
        · have := Nat.div_add_mod a w
          rw [h0, hc.1, Nat.mul_zero] at this; omega
        · exact h0
      rw [if_neg (by simp; omega), if_pos hc, find_same s ⟨h1, by omega⟩ ⟨hq1, by omega⟩ hl (hpow w (by omega)) (hrow w (by omega)) (by omega), Option.bind_some]
      cases findS (ringL s w) (a / w) with
      | none => simp only [Option.map_none]; rw [if_neg (by simp), Option.bind_some]; exact ih
      | some l => simp only [Option.map_some]; rw [if_pos trivial, Option.bind_some]; rfl
    · rw [if_pos (by simp; omega), if_neg hc, Option.bind_some]; exact ih
theorem leastR_l0 (s : List Tile) (m : Nat) (hm : m ≤ 6) (hl : s.length ≤ 1000) (hpow : ∀ w, w ≤ m → (colsS s).length ^ w ≤ 1000000) (hrow : ∀ w, w ≤ m → s.length ^ w ≤ 1000000) : ∀ (d a k : Nat), a + d = m * m + 1 → 1 ≤ a → 2100010 + d < k → ref03_Least.l0 k a s m = some (match firstA s m d a with
    | some p => .inl (p, true)
    | none => .inr ())
  | 0, a, k, e, h1, hk => by
    obtain ⟨k, rfl⟩ : ∃ m, k = m + 1 := ⟨k - 1, by omega⟩
    have : m * m ≤ 36 := Nat.mul_le_mul hm hm
    rw [ref03_Least.l0, show (m : Int) * (m : Int) = ((m * m : Nat) : Int) by simp, w64_id (by omega) (by omega), if_neg (by simp; omega)]; rfl
  | d + 1, a, k, e, h1, hk => by
    obtain ⟨k, rfl⟩ : ∃ m, k = m + 1 := ⟨k - 1, by omega⟩
    have h36 : m * m ≤ 36 := Nat.mul_le_mul hm hm
    have ih := leastR_l0 s m hm hl hpow hrow d (a + 1) k (by omega) (by omega) (by omega)
    have hwi : w64 ((a : Int) + 1) = ((a + 1 : Nat) : Int) := by rw [w64_id (by omega) (by omega)]; rfl
    have l1 := leastR_l1 s m a hm ⟨h1, by omega⟩ hl hpow hrow m 1 k (by omega) (by omega) (by omega)
    have l1' : ref03_Least.l1 k 1 s m a = _ := l1
    rw [ref03_Least.l0, show (m : Int) * (m : Int) = ((m * m : Nat) : Int) by simp, w64_id (n := ((m * m : Nat) : Int)) (by omega) (by omega), if_pos (by simp; omega), l1', hwi, firstA, Option.bind_some]
    cases firstW s m a m 1 with
    | none => exact ih
    | some p => rfl
theorem leastRef_eq (s : List Tile) (m : Nat) (hm : 1 ≤ m ∧ m ≤ 6) (hl : s.length ≤ 1000) (hpow : ∀ w, w ≤ m → (colsS s).length ^ w ≤ 1000000) (hrow : ∀ w, w ≤ m → s.length ^ w ≤ 1000000) {k : Nat} (hk : 2100100 < k) : ref03_Least k s m = some (match leastS s m with
    | some p => (p, true)
    | none => (p0P, false)) := by
  have h36 : m * m ≤ 36 := Nat.mul_le_mul hm.2 hm.2
  have l0 := leastR_l0 s m hm.2 hl hpow hrow (m * m) 1 k (by omega) (by omega) (by omega)
  have l0' : ref03_Least.l0 k 1 s m = _ := l0
  unfold ref03_Least leastS
  rw [l0', Option.bind_some]
  cases firstA s m (m * m) 1 <;> rfl
theorem law03_TorusLeast_pure : ∀ (p0 : List Tile) (p1 : Int), ((∀ x ∈ p0, ok_Tile x) ∧ p0.length ≤ Go.maxLen) → (ok64 p1) → ∃ k, law03_TorusLeast k p0 p1 = some true := by
  intro s a hs _
  have hl : s.length ≤ 9223372036854775807 := hs.2
  refine ⟨3000000, ?_⟩
  have aw : law03_awake 3000000 = some true := awake03_ok 2999700
  unfold law03_TorusLeast
  split
  · rw [aw]; rfl
  rw [valid01 s (by omega) hl, Option.bind_some]
  cases hv : validT s
  · have hf : torus_Least 3000000 s a = some (p0P, 1) := by
      unfold torus_Least; rw [tile_valid s (by omega) hl, hv]; rfl
    rw [if_pos (by simp), hf, Option.bind_some, Option.bind_some, if_pos (by decide), no_eq 1 (by omega), Option.bind_some, if_pos rfl, aw]; rfl
  have hl1 := valid_len hv
  by_cases hr : 1 ≤ a ∧ a ≤ 6
  rotate_left
  · have hf : torus_Least 3000000 s a = some (p0P, 2) := by
      unfold torus_Least; rw [tile_valid s (by omega) hl, hv, Option.bind_some, if_neg (by simp), if_pos (by simp; omega)]; rfl
    rw [if_pos (by simp; omega), hf, Option.bind_some, Option.bind_some, if_neg (by decide), no_eq 2 (by omega), Option.bind_some, if_pos rfl, aw]; rfl
  obtain ⟨m, rfl⟩ : ∃ m : Nat, a = m := ⟨a.toNat, by omega⟩
  have hm : 1 ≤ m ∧ m ≤ 6 := by omega
  obtain ⟨hb, hhv, hh2⟩ := heavy03 s hl1 (w := m) (by omega) (k := 3000000) (by omega)
  rw [if_neg (by simp; omega), hhv, Option.bind_some]
  cases hb
  rotate_left
  · rw [if_pos rfl, aw]; rfl
  obtain ⟨g1, g2, g3⟩ := hh2 rfl
  have pm : ∀ (b w : Nat), w ≤ m → b ^ m ≤ 8000 → b ^ w ≤ 1000000 := fun b w hw hb => by
    rcases Nat.eq_zero_or_pos b with h0 | h0
    · rw [h0]
      rcases Nat.eq_zero_or_pos w with h1 | h1
      · rw [h1]; simp
      · rw [Nat.zero_pow h1]; omega
    · exact Nat.le_trans (Nat.pow_le_pow_right h0 hw) (by omega)
  rw [if_neg (by simp)]
  cases hf : fewB s.length m
  · have hfl : torus_Least 3000000 s m = some (p0P, 4) := by
      unfold torus_Least
      rw [tile_valid s (by omega) hl, hv, Option.bind_some, if_neg (by simp), if_neg (by simp; omega), few_eq s m (by omega) (by omega) (by omega), hf]; rfl
    rw [hfl, Option.bind_some]
    simp only
    rw [if_pos (by decide), great_eq s hl1 ⟨hm.1, by omega⟩ (by omega), hf, Option.bind_some, Option.bind_some, if_pos (by decide), no_eq 4 (by omega), Option.bind_some, if_pos rfl, aw]; rfl
  · rw [least_eq s m hv hm hf (by omega), leastRef_eq s m hm hl1 (fun w hw => pm _ w hw (by omega)) (fun w hw => pm _ w hw (by omega)) (by omega)]
    cases hfs : leastS s m with
    | none =>
      simp only
      rw [Option.bind_some]
      simp only
      rw [if_neg (by decide), Option.bind_some, if_neg (by decide), Option.bind_some]
      simp only
      rw [is_none (by omega), Option.bind_some, if_pos rfl, aw]; rfl
    | some p =>
      obtain ⟨w, h, f, hw, hh, ht, hp, _⟩ := least_some hm.2 hfs
      have hcl : p.Cells.length ≤ 1000 := by
        rw [hp, (patR_cells ht.fill).1]
        have h3 : h * w ≤ 6 * 6 := Nat.mul_le_mul (by omega) (by omega)
        omega
      simp only
      rw [Option.bind_some]
      simp only
      rw [if_neg (by decide), Option.bind_some, if_neg (by decide), Option.bind_some]
      simp only
      rw [is_some _ (by omega) (by omega), Option.bind_some, if_pos rfl, aw]; rfl
end Gp
set_option linter.unusedVariables false
set_option linter.unusedSimpArgs false
namespace Gp
open Gw Gq
/-! ### the reference's first filling -/
end Gp
set_option linter.unusedVariables false
set_option linter.unusedSimpArgs false
namespace Gp
open Gw Gq
end Gp
set_option linter.unusedVariables false
set_option linter.unusedSimpArgs false
namespace Gp
open Gw Gq
end Gp
set_option linter.unusedVariables false
set_option linter.unusedSimpArgs false
namespace Gp
open Gw Gq
end Gp
set_option linter.unusedVariables false
set_option linter.unusedSimpArgs false
namespace Gp
open Gw Gq
/-! ### the first filling of a rectangle -/
end Gp
