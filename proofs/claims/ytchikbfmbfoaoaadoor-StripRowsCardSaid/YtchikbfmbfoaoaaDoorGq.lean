/- The plain law: what the functions compute answers as the statement says. -/
import Derived.Test.YtchikbfmbfoaoaaDoorGp
import Derived.KernelRfl
set_option linter.unusedVariables false
set_option linter.unusedSimpArgs false
namespace Gq
open Go Gw Gp
/-! ### numbers and lists -/
theorem w64_id {n : Int} (h0 : -9223372036854775808 ≤ n) (h1 : n ≤ 9223372036854775807) : w64 n = n := by
  show IntKind.i64.wrap n = n
  have e : IntKind.i64.wrap n = if (true && decide (n % 18446744073709551616 ≥ 9223372036854775808)) = true then n % 18446744073709551616 - 18446744073709551616 else n % 18446744073709551616 := rfl
  rw [e]
  simp only [Bool.true_and, decide_eq_true_eq]
  split <;> omega
theorem rdD_nat {α : Type} (xs : List α) (i : Nat) (d : α) : rdD xs (i : Int) d = xs.getD i d := by simp [rdD]
theorem rdD_get {α : Type} {xs : List α} {i : Nat} (h : i < xs.length) (d : α) : rdD xs (i : Int) d = xs[i] := by
  simp [rdD, List.getD, List.getElem?_eq_getElem h]
def firstS {α β : Type} (g : Nat → α → Option β) : Nat → List α → Option β
  | _, [] => none
  | i, a :: r => match g i a with
    | some b => some b
    | none => firstS g (i + 1) r
def fin {β : Type} : Option β → Sum β Unit
  | some b => .inl b
  | none => .inr ()
theorem scan {α β : Type} {F : Nat → Int → Option (Sum β Unit)} {xs : List α} {g : Nat → α → Option β}
    (hF : ∀ k (i : Nat), i ≤ xs.length → F (k + 1) (i : Int) = if h : i < xs.length then (match g i xs[i] with | some b => some (.inl b) | none => F k ((i + 1 : Nat) : Int)) else some (.inr ())) :
    ∀ (n k i : Nat), i + n = xs.length → n < k → F k (i : Int) = some (fin (firstS g i (xs.drop i)))
  | 0, k, i, hi, hk => by
    obtain ⟨k, rfl⟩ : ∃ m, k = m + 1 := ⟨k - 1, by omega⟩
    have hi : i = xs.length := by omega
    subst hi
    rw [hF k _ (Nat.le_refl _), dif_neg (Nat.lt_irrefl _), List.drop_length]; rfl
  | n + 1, k, i, hi, hk => by
    obtain ⟨k, rfl⟩ : ∃ m, k = m + 1 := ⟨k - 1, by omega⟩
    have hlt : i < xs.length := by omega
    rw [hF k i (by omega), dif_pos hlt, List.drop_eq_getElem_cons hlt, firstS]
    cases hg : g i xs[i] with
    | some b => rfl
    | none => exact scan hF n k (i + 1) (by omega) (by omega)
end Gq
set_option linter.unusedVariables false
set_option linter.unusedSimpArgs false
namespace Gq
theorem flat_succ {α : Type} (f : Nat → List α) (n : Nat) : (List.range (n + 1)).flatMap f = (List.range n).flatMap f ++ f n := by
  rw [List.range_succ, List.flatMap_append]; simp
end Gq
namespace Gp
open Gw Gq
/-! ### the tiles of a machine -/
def hd (Y q s : Nat) : Int := ((Y + q * Y + s : Nat) : Int)
end Gp
set_option linter.unusedVariables false
set_option linter.unusedSimpArgs false
namespace Gp
open Gw Gq
/-! the reference -/
/-! equal sets -/
end Gp
set_option linter.unusedVariables false
set_option linter.unusedSimpArgs false
namespace Gq
theorem flat_get {α : Type} {f : Nat → List α} : ∀ {n q j : Nat} {t : α}, q < n → (f q)[j]? = some t → ((List.range n).flatMap f)[((List.range q).flatMap f).length + j]? = some t
  | 0, q, j, t, h, _ => by omega
  | n + 1, q, j, t, h, hj => by
    rw [flat_succ, List.getElem?_append]
    by_cases hq : q < n
    · have := flat_get (n := n) hq hj
      rw [if_pos (by by_cases hl : ((List.range q).flatMap f).length + j < ((List.range n).flatMap f).length
                     · exact hl
                     · rw [List.getElem?_eq_none (by omega)] at this; cases this)]
      exact this
    · have : q = n := by omega
      subst this
      rw [if_neg (by omega), show ((List.range q).flatMap f).length + j - ((List.range q).flatMap f).length = j by omega]; exact hj
theorem flat_len {α : Type} {f : Nat → List α} {b : Nat} (hf : ∀ i, (f i).length = b) : ∀ n, ((List.range n).flatMap f).length = n * b
  | 0 => by simp
  | n + 1 => by
    rw [flat_succ, List.length_append, Nat.add_mul, Nat.one_mul, flat_len hf n, hf n]
end Gq
namespace Gp
open Gw Gq
/-! ### where the tiles of a machine lie -/
end Gp
set_option linter.unusedVariables false
set_option linter.unusedSimpArgs false
namespace Gp
open Gw Gq
/-! ### the tile that shows a cell of a step -/
theorem Tile.ext' {a b : Tile} (h1 : a.N = b.N) (h2 : a.E = b.E) (h3 : a.S = b.S) (h4 : a.W = b.W) : a = b := by
  cases a; cases b; simp only at h1 h2 h3 h4; subst h1 h2 h3 h4; rfl
end Gp
set_option linter.unusedVariables false
set_option linter.unusedSimpArgs false
namespace Gq
theorem loop_all {σ ρ τ : Type} {F : Nat → Int → σ → Option (Sum ρ τ)} {S : Nat → σ} {b : Nat → Bool} {n K : Nat} {r : ρ} {e : τ} (hs : ∀ k i, K ≤ k → i < n → F (k + 1) (i : Int) (S i) = if b i = true then F k ((i + 1 : Nat) : Int) (S (i + 1)) else some (.inl r)) (he : ∀ k, F (k + 1) (n : Int) (S n) = some (.inr e)) :
    ∀ k, n + K < k → F k 0 (S 0) = some (if (List.range n).all b = true then .inr e else .inl r) := by
  have key : ∀ d i k, i + d = n → d + K < k → F k (i : Int) (S i) = some (if (List.range' i d).all b = true then .inr e else .inl r) := by
    intro d
    induction d with
    | zero =>
      intro i k hi hk
      obtain ⟨k, rfl⟩ : ∃ m, k = m + 1 := ⟨k - 1, by omega⟩
      have : i = n := by omega
      subst this; rw [he]; rfl
    | succ d ih =>
      intro i k hi hk
      obtain ⟨k, rfl⟩ : ∃ m, k = m + 1 := ⟨k - 1, by omega⟩
      rw [hs k i (by omega) (by omega), List.range'_succ, List.all_cons]
      cases hb : b i
      · rfl
      · rw [if_pos rfl, ih (i + 1) k (by omega) (by omega)]; rfl
  intro k hk
  rw [List.range_eq_range']
  exact key n 0 k (by omega) hk
theorem firstS_ge' {α : Type} {p : α → Bool} : ∀ (xs : List α) (i : Nat), (match firstS (fun i a => if p a = true then none else some (i : Int)) i xs with
    | some x => decide (0 ≤ x)
    | none => false) = !xs.all p
  | [], i => rfl
  | a :: r, i => by
    rw [firstS]
    cases h : p a
    · simp [h]
    · simp only [if_true, List.all_cons, h, Bool.true_and]
      exact firstS_ge' r (i + 1)
end Gq
namespace Gp
open Gw Gq
/-! ### sets of tiles and patterns -/
def inCol (c : Int) : Bool := decide (0 ≤ c ∧ c < 1000)
def colB (t : Tile) : Bool := inCol t.N && inCol t.E && inCol t.S && inCol t.W
theorem idx_col (xs : List Int) (hl : xs.length ≤ 1000000) (k : Nat) (hk : xs.length < k) :
    slices_IndexFunc_int_int_with_tile_colour_1.l0 k 0 xs = some (fin (firstS (fun i a => if inCol a = true then none else some (i : Int)) 0 xs)) := by
  have := scan (F := fun k i => slices_IndexFunc_int_int_with_tile_colour_1.l0 k i xs) (xs := xs) (g := fun i a => if inCol a = true then none else some (i : Int)) (fun k i hi => by
    show slices_IndexFunc_int_int_with_tile_colour_1.l0 (k + 1) i xs = _
    rw [slices_IndexFunc_int_int_with_tile_colour_1.l0]
    by_cases h : i < xs.length
    · have h' : (i : Int) < (xs.length : Int) := by omega
      have h2 : 0 ≤ (i : Int) ∧ (i : Int) < (xs.length : Int) := by omega
      rw [dif_pos h, if_pos (by simpa using h'), if_pos h2, rdD_get h, tile_colour_1, w64_id (by omega) (by omega)]
      by_cases hb : 0 ≤ xs[i] ∧ xs[i] < 1000
      · have h3 : ¬ (xs[i] < 0 ∨ 1000 ≤ xs[i]) := by omega
        simp [inCol, hb]
        intro hh; exact absurd hh h3
      · have h3 : (xs[i] < 0 ∨ 1000 ≤ xs[i]) := by omega
        simp [inCol, hb, h3]
    · have h' : ¬ (i : Int) < (xs.length : Int) := by omega
      rw [dif_neg h, if_neg (by simpa using h')]) xs.length k 0 (by simp) hk
  simpa using this
theorem colour_eq (xs : List Int) (hl : xs.length ≤ 1000000) (k : Nat) (hk : xs.length < k) : tile_colour k xs = some (xs.all inCol) := by
  unfold tile_colour slices_ContainsFunc_int_int_with_tile_colour_1 slices_IndexFunc_int_int_with_tile_colour_1
  rw [idx_col xs hl k hk]
  have := firstS_ge' (p := inCol) xs 0
  cases hf : firstS (fun i a => if inCol a = true then none else some (i : Int)) 0 xs <;> rw [hf] at this <;> cases ha : xs.all inCol <;> rw [ha] at this <;> simp [fin, sumb] at this ⊢
  · exact this
  · exact this
def metS (set : List Tile) (i : Nat) : List (Tile × Bool) := (set.take i).map fun t => (t, true)
theorem mget_met (t : Tile) : ∀ l : List Tile, mget t false (l.map fun t => (t, true)) = decide (t ∈ l)
  | [] => rfl
  | a :: r => by
    simp only [List.map_cons, mget]
    by_cases h : t = a
    · simp [h]
    · rw [if_neg h, mget_met t r]; simp [h]
theorem mput_met (t : Tile) : ∀ l : List Tile, t ∉ l → mput t true (l.map fun t => (t, true)) = (l.map fun t => (t, true)) ++ [(t, true)]
  | [], _ => rfl
  | a :: r, h => by
    simp only [List.mem_cons, not_or] at h
    simp only [List.map_cons, mput, if_neg h.1, mput_met t r h.2, List.cons_append]
def newB (set : List Tile) (i : Nat) : Bool := !decide (set.getD i z_Tile ∈ set.take i) && colB (set.getD i z_Tile)
def validT (set : List Tile) : Bool := decide (set.length ≤ 1000) && (List.range set.length).all (newB set)
theorem tile_valid (set : List Tile) {k : Nat} (hk : 1006 ≤ k) (hl : set.length ≤ 9223372036854775807) : tile_Valid k set = some (validT set) := by
  unfold tile_Valid validT
  by_cases hb : set.length ≤ 1000
  · rw [if_neg (by simp; omega)]
    have := loop_all (F := fun k i (m : List (Tile × Bool)) => tile_Valid.l0 k m i set) (S := metS set) (b := newB set) (n := set.length) (K := 5) (r := false) (e := ()) (fun k i hk hi => by
      show tile_Valid.l0 (k + 1) (metS set i) i set = if newB set i = true then tile_Valid.l0 k (metS set (i + 1)) ((i + 1 : Nat) : Int) set else _
      rw [tile_Valid.l0, if_pos (by simpa using hi), if_pos (by omega), rdD_nat, metS, mget_met]
      have ht : set.getD i z_Tile = set[i] := by simp [List.getElem?_eq_getElem hi]
      unfold newB
      by_cases hm : set.getD i z_Tile ∈ set.take i
      · rw [if_pos (by simpa using hm), show decide (set.getD i z_Tile ∈ set.take i) = true from decide_eq_true hm]; rfl
      · rw [if_neg (by simpa using hm), colour_eq _ (by simp) k (by simp; omega), Option.bind_some, Option.bind_some]
        have hc : ([(set.getD i z_Tile).N, (set.getD i z_Tile).E, (set.getD i z_Tile).S, (set.getD i z_Tile).W].all inCol) = colB (set.getD i z_Tile) := by simp [colB, Bool.and_assoc]
        rw [hc]
        cases hcb : colB (set.getD i z_Tile)
        · simp
        · rw [mput_met _ _ hm, w64_id (by omega) (by omega)]
          simp only [hm, Bool.not_true, Bool.false_eq_true, if_false, decide_false, Bool.not_false, Bool.and_self, if_true]
          unfold metS
          rw [List.take_add_one, List.map_append, List.getElem?_eq_getElem hi, ht]; rfl) (fun k => by
      show tile_Valid.l0 (k + 1) (metS set set.length) set.length set = _
      rw [tile_Valid.l0, if_neg (by simp)]) k (by omega)
    have h0 : tile_Valid.l0 k [] 0 set = some (if (List.range set.length).all (newB set) = true then .inr () else .inl false) := this
    rw [h0]
    cases (List.range set.length).all (newB set) <;> simp [sumb, hb]
  · rw [if_pos (by simp; omega)]; simp [hb]
def formB (p : Pattern) : Bool := decide (1 ≤ p.Width ∧ 1 ≤ p.Height ∧ p.Width ≤ 40000 ∧ p.Height ≤ 40000 ∧ p.Width * p.Height ≤ 40000 ∧ (p.Cells.length : Int) = p.Width * p.Height)
def inSet (n : Nat) (c : Int) : Bool := decide (0 ≤ c ∧ c < (n : Int))
def ofB (set : List Tile) (p : Pattern) : Bool := validT set && formB p && p.Cells.all (inSet set.length)
structure PForm (set : List Tile) (p : Pattern) (W H : Nat) : Prop where
  w : p.Width = W
  h : p.Height = H
  dW : 1 ≤ W ∧ W ≤ 40000
  dH : 1 ≤ H ∧ H ≤ 40000
  wh : H * W ≤ 40000
  len : p.Cells.length = H * W
  cel : ∀ j, j < H * W → 0 ≤ p.Cells.getD j 0 ∧ p.Cells.getD j 0 < (set.length : Int)
theorem place_lt {W H x y : Nat} (hx : x < W) (hy : y < H) : y * W + x < H * W := by
  have := Nat.mul_le_mul_right W (show y + 1 ≤ H by omega)
  rw [Nat.succ_mul] at this; omega
end Gp
set_option linter.unusedVariables false
set_option linter.unusedSimpArgs false
namespace Gp
open Gw Gq
/-! ### the pictures are patterns of the tiles -/
theorem PForm.of {set : List Tile} {p : Pattern} {W H : Nat} (f : PForm set p W H) (hv : validT set = true) : ofB set p = true := by
  unfold ofB formB
  have h1 := f.dW; have h2 := f.dH; have h3 := f.wh
  have e : p.Width * p.Height = ((H * W : Nat) : Int) := by rw [f.w, f.h, Int.natCast_mul, Int.mul_comm]
  rw [hv, e, f.w, f.h, f.len]
  simp only [Bool.true_and, Bool.and_eq_true, decide_eq_true_eq, List.all_eq_true]
  refine ⟨⟨by omega, by omega, by omega, by omega, by omega, trivial⟩, fun a ha => ?_⟩
  obtain ⟨j, hj, he⟩ := List.mem_iff_getElem.1 ha
  have := f.cel j (by rw [← f.len]; exact hj)
  rw [show p.Cells.getD j 0 = p.Cells[j] from by simp [List.getElem?_eq_getElem hj], he] at this
  unfold inSet; exact decide_eq_true this
end Gp
set_option linter.unusedVariables false
set_option linter.unusedSimpArgs false
namespace Gq
end Gq
namespace Gp
open Gw Gq
/-! ### the patterns of the statements' own reference -/
end Gp
set_option linter.unusedVariables false
set_option linter.unusedSimpArgs false
namespace Gp
open Gw Gq
end Gp
set_option linter.unusedVariables false
set_option linter.unusedSimpArgs false
namespace Gp
open Gw Gq
/-! ### a torus, repeated -/
end Gp
set_option linter.unusedVariables false
set_option linter.unusedSimpArgs false
namespace Gp
open Gw Gq
/-! ### the first layer's reference -/
theorem colour01 (c : Int) : ref01_colour c = some (inCol c) := by
  unfold ref01_colour inCol
  by_cases h : 0 ≤ c ∧ c < 1000
  · simp [h]
  · rw [decide_eq_false h]
    congr 1
    cases h1 : decide (c ≥ 0)
    · rfl
    · have : ¬ c < 1000 := fun h2 => h ⟨by simpa using h1, h2⟩
      simp [this]
theorem index01 {set : List Tile} (hl : set.length ≤ 1000000) (t : Tile) {k : Nat} (hk : set.length < k) : ∃ r : Int, ref01_Index k set t = some r ∧ decide (r ≥ 0) = decide (t ∈ set) := by
  have := scan (F := fun k i => ref01_Index.l0 k i set t) (xs := set) (g := fun i a => if a = t then some (i : Int) else none) (fun k i hi => by
    show ref01_Index.l0 (k + 1) i set t = _
    rw [ref01_Index.l0]
    by_cases h : i < set.length
    · have h2 : 0 ≤ (i : Int) ∧ (i : Int) < (set.length : Int) := by omega
      rw [dif_pos h, if_pos (by simpa using h), if_pos h2, rdD_get h, w64_id (by omega) (by omega)]
      by_cases hb : set[i] = t
      · subst hb; simp
      · have : ((set[i].N == t.N) && ((set[i].E == t.E) && ((set[i].S == t.S) && (set[i].W == t.W)))) = false := by
          cases hc : ((set[i].N == t.N) && ((set[i].E == t.E) && ((set[i].S == t.S) && (set[i].W == t.W))))
          · rfl
          · simp only [Bool.and_eq_true, beq_iff_eq] at hc
            exact absurd (Tile.ext' hc.1 hc.2.1 hc.2.2.1 hc.2.2.2) hb
        rw [this, if_neg hb]; rfl
    · rw [dif_neg h, if_neg (by simpa using h)]) set.length k 0 (by simp) hk
  have h0 : ref01_Index.l0 k 0 set t = some (fin (firstS (fun i a => if a = t then some (i : Int) else none) 0 (set.drop 0))) := this
  rw [List.drop_zero] at h0
  have key : ∀ (l : List Tile) (i : Nat), match firstS (fun i a => if a = t then some (i : Int) else none) i l with
      | some x => decide (x ≥ 0) = decide (t ∈ l)
      | none => decide (t ∈ l) = false := by
    intro l
    induction l with
    | nil => intro i; simp [firstS]
    | cons a r ih =>
      intro i
      rw [firstS]
      by_cases ha : a = t
      · subst ha; simp
      · have hne : ¬ t = a := fun e => ha e.symm
        rw [if_neg ha]
        have := ih (i + 1)
        cases hf : firstS (fun i a => if a = t then some (i : Int) else none) (i + 1) r with
        | none => rw [hf] at this; simp only [List.mem_cons, hne, false_or]; exact this
        | some x => rw [hf] at this; simp only [List.mem_cons, hne, false_or]; exact this
  unfold ref01_Index
  rw [h0]
  have hk2 := key set 0
  cases hf : firstS (fun i a => if a = t then some (i : Int) else none) 0 set with
  | none => rw [hf] at hk2; exact ⟨-1, rfl, by rw [hk2]; rfl⟩
  | some x => rw [hf] at hk2; exact ⟨x, rfl, hk2⟩
theorem valid01 (set : List Tile) {k : Nat} (hk : 2002 < k) (hl : set.length ≤ 9223372036854775807) : ref01_Valid k set = some (validT set) := by
  unfold ref01_Valid validT
  by_cases hb : set.length ≤ 1000
  · rw [if_neg (by simp; omega)]
    have := loop_all (F := fun k i (_ : Unit) => ref01_Valid.l0 k i set) (S := fun _ => ()) (b := newB set) (n := set.length) (K := 1001) (r := false) (e := ()) (fun k i hk hi => by
      show ref01_Valid.l0 (k + 1) i set = if newB set i = true then ref01_Valid.l0 k ((i + 1 : Nat) : Int) set else _
      have hcut : cut set (0 : Int) (i : Int) = set.take i := by unfold cut; simp
      obtain ⟨r, hr, hd⟩ := index01 (set := set.take i) (by rw [List.length_take]; omega) (set.getD i z_Tile) (k := k) (by rw [List.length_take]; omega)
      rw [ref01_Valid.l0, if_pos (by simpa using hi), if_pos (by omega)]
      simp only [rdD_nat, colour01, Option.bind_some, hcut]
      rw [if_pos (⟨by omega, by omega, by omega⟩ : 0 ≤ (0 : Int) ∧ (0 : Int) ≤ (i : Int) ∧ (i : Int) ≤ (set.length : Int)), hr, w64_id (by omega) (by omega)]
      simp only [Option.bind_some, hd]
      unfold newB colB
      cases inCol (set.getD i z_Tile).N
      · simp
      · cases inCol (set.getD i z_Tile).E
        · simp
        · cases inCol (set.getD i z_Tile).S
          · simp
          · cases inCol (set.getD i z_Tile).W
            · simp
            · cases decide (set.getD i z_Tile ∈ set.take i) <;> simp) (fun k => by
      show ref01_Valid.l0 (k + 1) set.length set = _
      rw [ref01_Valid.l0, if_neg (by simp)]) k (by omega)
    have h0 : ref01_Valid.l0 k 0 set = some (if (List.range set.length).all (newB set) = true then .inr () else .inl false) := this
    rw [h0]
    cases (List.range set.length).all (newB set) <;> simp [sumb, hb]
  · rw [if_pos (by simp; omega)]; simp [hb]
end Gp
set_option linter.unusedVariables false
set_option linter.unusedSimpArgs false
namespace Gp
open Gw Gq
/-! ### grids: lists of rows -/
def grid (w h : Nat) (g : Nat → Nat → Int) : List Int := (List.range h).flatMap fun y => (List.range w).map (g y)
theorem grid_len (w h : Nat) (g : Nat → Nat → Int) : (grid w h g).length = h * w := flat_len (f := fun y => (List.range w).map (g y)) (b := w) (fun y => by simp) h
theorem grid_get (w h : Nat) (g : Nat → Nat → Int) {x y : Nat} (hx : x < w) (hy : y < h) : (grid w h g).getD (y * w + x) 0 = g y x := by
  have := flat_get (f := fun y => (List.range w).map (g y)) (n := h) (q := y) (j := x) (t := g y x) hy (by simp [hx])
  have e : ((List.range y).flatMap fun y => (List.range w).map (g y)).length = y * w := grid_len w y g
  rw [e] at this
  unfold grid
  rw [List.getD_eq_getElem?_getD, this]; rfl
/-! ### stores into a list -/
def sets (l : List Int) (q : List (Nat × Int)) : List Int := q.foldl (fun l p => l.set p.1 p.2) l
/-! ### patterns that have the form of one -/
structure GForm (p : Pattern) (W H : Nat) : Prop where
  w : p.Width = W
  h : p.Height = H
  dW : 1 ≤ W ∧ W ≤ 40000
  dH : 1 ≤ H ∧ H ≤ 40000
  wh : H * W ≤ 40000
  len : p.Cells.length = H * W
theorem GForm.form {p : Pattern} {W H : Nat} (f : GForm p W H) : formB p = true := by
  have h1 := f.dW; have h2 := f.dH; have h3 := f.wh
  have e : p.Width * p.Height = ((H * W : Nat) : Int) := by rw [f.w, f.h, Int.natCast_mul, Int.mul_comm]
  unfold formB; rw [e, f.w, f.h, f.len]; exact decide_eq_true ⟨by omega, by omega, by omega, by omega, by omega, rfl⟩
theorem PForm.g {set : List Tile} {p : Pattern} {W H : Nat} (f : PForm set p W H) : GForm p W H := ⟨f.w, f.h, f.dW, f.dH, f.wh, f.len⟩
def cellG (p : Pattern) (W y x : Nat) : Int := p.Cells.getD (y * W + x) 0
theorem GForm.at {p : Pattern} {W H : Nat} (f : GForm p W H) {x y : Nat} (hx : x < W) (hy : y < H) : w64 (w64 ((y : Int) * (W : Int)) + (x : Int)) = ((y * W + x : Nat) : Int) ∧ (0 ≤ ((y * W + x : Nat) : Int) ∧ ((y * W + x : Nat) : Int) < (p.Cells.length : Int)) := by
  have hwh := f.wh
  have hp := place_lt hx hy
  refine ⟨?_, by omega, by rw [f.len]; omega⟩
  rw [← Int.natCast_mul, w64_id (n := ((y * W : Nat) : Int)) (by omega) (by omega), w64_id (by omega) (by omega)]; rfl
/-! ### the changed patterns -/
end Gp
set_option linter.unusedVariables false
set_option linter.unusedSimpArgs false
namespace Gp
open Gw Gq
/-! ### cuts -/
/-! ### patterns, repeated -/
/-! ### what is equal -/
end Gp
set_option linter.unusedVariables false
set_option linter.unusedSimpArgs false
namespace Gp
open Gw Gq
/-! ### changed sets -/
def upT (t : Tile) : Tile := ⟨t.S, t.E, t.N, t.W⟩
structure Chg (f : Tile → Tile) : Prop where
  inj : ∀ a b, f a = f b → a = b
  col : ∀ t, colB (f t) = colB t
theorem chg_up : Chg upT := ⟨fun a b h => by cases a; cases b; simp only [upT, Tile.mk.injEq] at h; obtain ⟨rfl, rfl, rfl, rfl⟩ := h; rfl, fun t => by unfold colB upT; simp only; cases inCol t.N <;> cases inCol t.E <;> cases inCol t.S <;> cases inCol t.W <;> rfl⟩
theorem getD_map (f : Tile → Tile) {s : List Tile} {i : Nat} (h : i < s.length) : (s.map f).getD i z_Tile = f (s.getD i z_Tile) := by simp [List.getElem?_eq_getElem h]
theorem Chg.valid {f : Tile → Tile} (c : Chg f) {s : List Tile} (hv : validT s = true) : validT (s.map f) = true := by
  unfold validT at hv ⊢
  simp only [Bool.and_eq_true, decide_eq_true_eq, List.all_eq_true, List.mem_range, List.length_map] at hv ⊢
  refine ⟨hv.1, fun i hi => ?_⟩
  have := hv.2 i hi
  unfold newB at this ⊢
  rw [getD_map f hi, ← List.map_take, c.col]
  simp only [Bool.and_eq_true, Bool.not_eq_true', decide_eq_false_iff_not] at this ⊢
  refine ⟨fun hm => this.1 ?_, this.2⟩
  obtain ⟨a, ha, he⟩ := List.mem_map.1 hm
  rw [← c.inj _ _ he]; exact ha
/-! ### how the tiles of a grid meet -/
def JP (W H : Nat) (round : Bool) (T : Nat → Nat → Tile) : Prop :=
  (∀ y x, y < H → x < W → (x + 1 < W ∨ round = true) → (T y x).E = (T y ((x + 1) % W)).W) ∧ (∀ y x, y < H → x < W → (y + 1 < H ∨ round = true) → (T y x).N = (T ((y + 1) % H) x).S)
theorem JP.congr {W H : Nat} {round : Bool} {T T' : Nat → Nat → Tile} (he : ∀ y x, y < H → x < W → T y x = T' y x) (h : JP W H round T) : JP W H round T' := by
  refine ⟨fun y x hy hx hr => ?_, fun y x hy hx hr => ?_⟩
  · rw [← he y x hy hx, ← he y _ hy (Nat.mod_lt _ (by omega))]; exact h.1 y x hy hx hr
  · rw [← he y x hy hx, ← he _ x (Nat.mod_lt _ (by omega)) hx]; exact h.2 y x hy hx hr
def GP (W H : Nat) (c : Nat → Nat → Int) : Pattern := ⟨W, H, grid W H c⟩
def TT (s : List Tile) (c : Nat → Nat → Int) (y x : Nat) : Tile := s.getD (c y x).toNat z_Tile
structure GOK (s : List Tile) (W H : Nat) (c : Nat → Nat → Int) (whole : Bool) : Prop where
  valid : validT s = true
  dW : 1 ≤ W ∧ W ≤ 40000
  dH : 1 ≤ H ∧ H ≤ 40000
  wh : H * W ≤ 40000
  cel : ∀ y x, y < H → x < W → 0 ≤ c y x ∧ c y x < (s.length : Int)
  fits : JP W H false (TT s c)
  round : whole = true ↔ JP W H true (TT s c)
theorem valid_len {s : List Tile} (hv : validT s = true) : s.length ≤ 1000 := by unfold validT at hv; simp only [Bool.and_eq_true, decide_eq_true_eq] at hv; exact hv.1
theorem GOK.congr {s : List Tile} {W H : Nat} {c c' : Nat → Nat → Int} {whole : Bool} (g : GOK s W H c whole) (he : ∀ y x, y < H → x < W → c y x = c' y x) : GOK s W H c' whole := by
  have ht : ∀ y x, y < H → x < W → TT s c y x = TT s c' y x := fun y x hy hx => by unfold TT; rw [he y x hy hx]
  exact ⟨g.valid, g.dW, g.dH, g.wh, fun y x hy hx => by rw [← he y x hy hx]; exact g.cel y x hy hx, g.fits.congr ht, g.round.trans ⟨fun h => h.congr ht, fun h => h.congr (fun y x hy hx => (ht y x hy hx).symm)⟩⟩
theorem TT_map {f : Tile → Tile} {s : List Tile} {c : Nat → Nat → Int} {y x : Nat} (h : 0 ≤ c y x ∧ c y x < (s.length : Int)) : TT (s.map f) c y x = f (TT s c y x) := by
  unfold TT
  rw [getD_map f (by omega)]
/-! mirrored -/
theorem mod_back {W x : Nat} (hx : x < W) : (W - 1 - (x + 1) % W + 1) % W = W - 1 - x ∧ W - 1 - (x + 1) % W < W ∧ (x + 1 < W → W - 1 - (x + 1) % W + 1 < W) := by
  by_cases h : x + 1 < W
  · rw [Nat.mod_eq_of_lt h, show W - 1 - (x + 1) + 1 = W - 1 - x by omega, Nat.mod_eq_of_lt (by omega)]; omega
  · have e : x + 1 = W := by omega
    rw [e, Nat.mod_self, show W - 1 - 0 + 1 = W by omega, Nat.mod_self]; omega
theorem JP.up {W H : Nat} {round : Bool} {T : Nat → Nat → Tile} (h : JP W H round T) : JP W H round (fun y x => upT (T (H - 1 - y) x)) := by
  refine ⟨fun y x hy hx hr => ?_, fun y x hy hx hr => ?_⟩
  · exact h.1 (H - 1 - y) x (by omega) hx hr
  · obtain ⟨e, hlt, hi⟩ := mod_back hy
    have := h.2 (H - 1 - (y + 1) % H) x hlt hx (hr.imp hi id)
    rw [e] at this
    exact this.symm
theorem GOK.up {s : List Tile} {W H : Nat} {c : Nat → Nat → Int} {whole : Bool} (g : GOK s W H c whole) : GOK (s.map upT) W H (fun y x => c (H - 1 - y) x) whole := by
  have hdH := g.dH
  have ht : ∀ y x, y < H → x < W → upT (TT s c (H - 1 - y) x) = TT (s.map upT) (fun y x => c (H - 1 - y) x) y x := fun y x hy hx => by
    exact (TT_map (f := upT) (c := fun y x => c (H - 1 - y) x) (y := y) (x := x) (g.cel (H - 1 - y) x (by omega) hx)).symm
  refine ⟨chg_up.valid g.valid, g.dW, g.dH, g.wh, fun y x hy hx => by rw [List.length_map]; exact g.cel _ x (by omega) hx, g.fits.up.congr ht, ?_⟩
  rw [g.round]
  constructor
  · exact fun h => h.up.congr ht
  · intro h
    have := (h.congr (fun y x hy hx => (ht y x hy hx).symm)).up
    exact this.congr fun y x hy hx => by
      rw [show H - 1 - (H - 1 - y) = y by omega]; rfl
theorem GP.g {W H : Nat} {c : Nat → Nat → Int} (dW : 1 ≤ W ∧ W ≤ 40000) (dH : 1 ≤ H ∧ H ≤ 40000) (wh : H * W ≤ 40000) : GForm (GP W H c) W H := ⟨rfl, rfl, dW, dH, wh, grid_len W H c⟩
theorem GP.cell {W H : Nat} (c : Nat → Nat → Int) {y x : Nat} (hy : y < H) (hx : x < W) : cellG (GP W H c) W y x = c y x := grid_get W H c hx hy
end Gp
set_option linter.unusedVariables false
set_option linter.unusedSimpArgs false
namespace Gq
theorem loop_list {α σ τ : Type} {F : Nat → Int → σ → Option τ} (xs : List α) (step : σ → α → σ) (K : Nat) (P : Nat → σ → Prop) (fin : σ → τ)
    (hs : ∀ k i s (h : i < xs.length), K ≤ k → P i s → F (k + 1) (i : Int) s = F k ((i + 1 : Nat) : Int) (step s xs[i]) ∧ P (i + 1) (step s xs[i])) (he : ∀ k s, P xs.length s → F (k + 1) (xs.length : Int) s = some (fin s)) :
    ∀ (s0 : σ), P 0 s0 → ∀ k, xs.length + K < k → F k 0 s0 = some (fin (xs.foldl step s0)) := by
  have key : ∀ d i s k, i + d = xs.length → P i s → d + K < k → F k (i : Int) s = some (fin ((xs.drop i).foldl step s)) := by
    intro d
    induction d with
    | zero =>
      intro i s k hi hp hk
      obtain ⟨k, rfl⟩ : ∃ m, k = m + 1 := ⟨k - 1, by omega⟩
      have : i = xs.length := by omega
      subst this
      rw [he k s hp, List.drop_length]; rfl
    | succ d ih =>
      intro i s k hi hp hk
      obtain ⟨k, rfl⟩ : ∃ m, k = m + 1 := ⟨k - 1, by omega⟩
      have hlt : i < xs.length := by omega
      obtain ⟨h1, h2⟩ := hs k i s hlt (by omega) hp
      rw [h1, ih (i + 1) _ k (by omega) h2 (by omega), List.drop_eq_getElem_cons hlt]; rfl
  intro s0 h0 k hk
  have := key xs.length 0 s0 k (by omega) h0 hk
  simpa using this
end Gq
namespace Gp
open Gw Gq
/-! ### words, rows -/
def tat (set : List Tile) (i : Nat) : Tile := set.getD i z_Tile
def cz (c : List Nat) : List Int := c.map fun (i : Nat) => (i : Int)
def wordOf (l : List Int) : A8_Int := ⟨l.getD 0 0, l.getD 1 0, l.getD 2 0, l.getD 3 0, l.getD 4 0, l.getD 5 0, l.getD 6 0, l.getD 7 0⟩
def mkR (set : List Tile) (c : List Nat) : Row := ⟨cz c, wordOf (c.map fun i => (tat set i).S), wordOf (c.map fun i => (tat set i).N), (tat set (c.headD 0)).W, (tat set (c.getLastD 0)).E⟩
def follows (set : List Tile) (c : List Nat) (i : Nat) : Bool := match c.getLast? with
  | none => true
  | some j => (tat set j).E == (tat set i).W
def rowsL (set : List Tile) : Nat → List Nat → List (List Nat)
  | 0, c => [c]
  | n + 1, c => ((List.range set.length).filter (follows set c)).flatMap fun i => rowsL set n (c ++ [i])
theorem wordOf_get (l : List Int) (i : Nat) (hi : i < 8) : (wordOf l).get i = l.getD i 0 := by
  have : i = 0 ∨ i = 1 ∨ i = 2 ∨ i = 3 ∨ i = 4 ∨ i = 5 ∨ i = 6 ∨ i = 7 := by omega
  rcases this with rfl | rfl | rfl | rfl | rfl | rfl | rfl | rfl <;> rfl
theorem wordOf_inj {a b : List Int} (ha : a.length ≤ 8) (h : a.length = b.length) : wordOf a = wordOf b ↔ a = b := by
  constructor
  · intro e
    apply List.ext_getElem? 
    intro i
    by_cases hi : i < a.length
    · have h1 := wordOf_get a i (by omega)
      have h2 := wordOf_get b i (by omega)
      rw [e, h2] at h1
      rw [List.getElem?_eq_getElem hi, List.getElem?_eq_getElem (by omega)]
      simp only [List.getD, List.getElem?_eq_getElem hi, List.getElem?_eq_getElem (show i < b.length by omega), Option.getD_some] at h1
      rw [h1]
    · rw [List.getElem?_eq_none (by omega), List.getElem?_eq_none (by omega)]
  · intro e; rw [e]
theorem wordOf_set (l : List Int) (v : Int) (hl : l.length < 8) : (wordOf l).set l.length v = wordOf (l ++ [v]) := by
  have : l.length = 0 ∨ l.length = 1 ∨ l.length = 2 ∨ l.length = 3 ∨ l.length = 4 ∨ l.length = 5 ∨ l.length = 6 ∨ l.length = 7 := by omega
  match l, this with
  | [], _ => rfl
  | [a], _ => rfl
  | [a, b], _ => rfl
  | [a, b, c], _ => rfl
  | [a, b, c, d], _ => rfl
  | [a, b, c, d, e], _ => rfl
  | [a, b, c, d, e, f], _ => rfl
  | [a, b, c, d, e, f, g], _ => rfl
  | _ :: _ :: _ :: _ :: _ :: _ :: _ :: _ :: l, h => simp at h
theorem rowOf_l0 (set : List Tile) (c : List Nat) (hc : ∀ i ∈ c, i < set.length) (h8 : c.length ≤ 8) {k : Nat} (hk : c.length < k) :
    rows_rowOf.l0 k (A8_Int.mk 0 0 0 0 0 0 0 0) (A8_Int.mk 0 0 0 0 0 0 0 0) 0 set (cz c) = some (wordOf (c.map fun i => (tat set i).S), wordOf (c.map fun i => (tat set i).N)) := by
  have key : ∀ d i k, i + d = c.length → d < k → rows_rowOf.l0 k (wordOf ((c.take i).map fun i => (tat set i).S)) (wordOf ((c.take i).map fun i => (tat set i).N)) (i : Int) set (cz c) = some (wordOf (c.map fun i => (tat set i).S), wordOf (c.map fun i => (tat set i).N)) := by
    intro d
    induction d with
    | zero =>
      intro i k hi hk
      obtain ⟨k, rfl⟩ : ∃ m, k = m + 1 := ⟨k - 1, by omega⟩
      have : i = c.length := by omega
      subst this
      rw [rows_rowOf.l0, if_neg (by simp [cz]), List.take_length]
    | succ d ih =>
      intro i k hi hk
      obtain ⟨k, rfl⟩ : ∃ m, k = m + 1 := ⟨k - 1, by omega⟩
      have hlt : i < c.length := by omega
      have hci := hc c[i] (List.getElem_mem _)
      have hz : rdD (cz c) (i : Int) 0 = ((c[i] : Nat) : Int) := by rw [rdD_get (by simpa [cz] using hlt)]; simp [cz]
      rw [rows_rowOf.l0, if_pos (by simp [cz]; omega), if_pos (by simp [cz]; omega), hz, if_pos (by omega), if_pos (by omega), w64_id (by omega) (by omega), rdD_nat]
      have e1 := wordOf_set ((c.take i).map fun i => (tat set i).S) (tat set c[i]).S (by simp; omega)
      have e2 := wordOf_set ((c.take i).map fun i => (tat set i).N) (tat set c[i]).N (by simp; omega)
      have hlen : ((c.take i).map fun i => (tat set i).S).length = i := by simp; omega
      have hlen2 : ((c.take i).map fun i => (tat set i).N).length = i := by simp; omega
      rw [hlen] at e1; rw [hlen2] at e2
      have ht : c.take (i + 1) = c.take i ++ [c[i]] := by rw [List.take_add_one, List.getElem?_eq_getElem hlt]; rfl
      show rows_rowOf.l0 k (A8_Int.set _ i (tat set c[i]).S) (A8_Int.set _ i (tat set c[i]).N) _ set (cz c) = _
      rw [e1, e2]
      have := ih (i + 1) k (by omega) (by omega)
      rw [ht, List.map_append, List.map_append] at this
      exact this
  exact key c.length 0 k (by omega) hk
theorem rowOf_eq (set : List Tile) (c : List Nat) (hc : ∀ i ∈ c, i < set.length) (h8 : c.length ≤ 8) (h1 : 1 ≤ c.length) {k : Nat} (hk : c.length < k) : rows_rowOf k set (cz c) = some (mkR set c) := by
  have hl : (cz c).length = c.length := by simp [cz]
  have h0 : rdD (cz c) (0 : Int) 0 = ((c.headD 0 : Nat) : Int) := by
    cases c with
    | nil => simp at h1
    | cons a r => rfl
  have hn : c ≠ [] := by intro e; rw [e] at h1; simp at h1
  have hh : c.headD 0 < set.length := by
    cases c with
    | nil => simp at h1
    | cons a r => exact hc a (by simp)
  have hlast : c.getLastD 0 < set.length := by
    rw [List.getLastD_eq_getLast?, List.getLast?_eq_some_getLast hn]; exact hc _ (List.getLast_mem hn)
  have hw : w64 (((cz c).length : Int) - 1) = ((c.length - 1 : Nat) : Int) := by rw [hl, w64_id (by omega) (by omega)]; omega
  have hz : rdD (cz c) (((c.length - 1 : Nat) : Int)) 0 = ((c.getLastD 0 : Nat) : Int) := by
    rw [rdD_get (by rw [hl]; omega)]
    rw [List.getLastD_eq_getLast?, List.getLast?_eq_some_getLast hn, Option.getD_some, List.getLast_eq_getElem]
    simp [cz]
  unfold rows_rowOf
  rw [rowOf_l0 set c hc h8 hk, hw, hz, h0, if_pos (by simp [cz]; omega), Option.bind_some, if_pos (by rw [hl]; omega), if_pos (by omega), if_pos (by rw [hl]; omega), if_pos (by omega), rdD_nat, rdD_nat]
  rfl
theorem all1 (set : List Tile) (w : Nat) (h1 : 1 ≤ w) (h8 : w ≤ 8) (hl : set.length ≤ 1000000) : ∀ (n x : Nat) (c : List Nat) (out : List Row) (cells : List Int) (k : Nat), x + n = w → c.length = x → (∀ i ∈ c, i < set.length) → cells.length = w → cells.take x = cz c →
    out.length + (rowsL set n c).length ≤ 100000000000 → n + set.length + 10 < k → ∃ cells', rows_All_1 k (x : Int) (w : Int) out set cells = some (out ++ (rowsL set n c).map (mkR set), cells') ∧ cells'.length = w ∧ cells'.take x = cz c := by
  intro n
  induction n with
  | zero =>
    intro x c out cells k hx hc hcs hcl hct hb hk
    obtain ⟨k, rfl⟩ : ∃ m, k = m + 1 := ⟨k - 1, by omega⟩
    have hxw : x = w := by omega
    subst hxw
    have he : cells = cz c := by rw [← hct, ← hcl, List.take_length]
    refine ⟨cells, ?_, hcl, hct⟩
    rw [rows_All_1, if_pos (by simp), he, rowOf_eq set c hcs (by omega) (by omega) (by omega), Option.bind_some, if_pos (by simp [rowsL] at hb; omega)]
    rfl
  | succ n ih =>
    intro x c out cells k hx hc hcs hcl hct hb hk
    obtain ⟨k, rfl⟩ : ∃ m, k = m + 1 := ⟨k - 1, by omega⟩
    have key : ∀ d i k' (out : List Row) (cells : List Int), i + d = set.length → d < k' → cells.length = w → cells.take x = cz c → out.length + (((List.range' i d).filter (follows set c)).flatMap fun i => rowsL set n (c ++ [i])).length ≤ 100000000000 →
        ∃ cells', rows_All_1.l0 k' out cells (i : Int) (x : Int) (w : Int) set (rows_All_1 k) = some (out ++ (((List.range' i d).filter (follows set c)).flatMap fun i => rowsL set n (c ++ [i])).map (mkR set), cells') ∧ cells'.length = w ∧ cells'.take x = cz c := by
      intro d
      induction d with
      | zero =>
        intro i k' out cells hi hk' hcl hct hb
        obtain ⟨k', rfl⟩ : ∃ m, k' = m + 1 := ⟨k' - 1, by omega⟩
        have : i = set.length := by omega
        subst this
        refine ⟨cells, ?_, hcl, hct⟩
        rw [rows_All_1.l0, if_neg (by simp)]; simp
      | succ d ihd =>
        intro i k' out cells hi hk' hcl hct hb
        obtain ⟨k', rfl⟩ : ∃ m, k' = m + 1 := ⟨k' - 1, by omega⟩
        have hlt : i < set.length := by omega
        have hcond : (if ((x : Int) == 0) = true then (some true) else (if 0 ≤ w64 ((x : Int) - 1) ∧ w64 ((x : Int) - 1) < (cells.length : Int) then (if 0 ≤ (rdD cells (w64 ((x : Int) - 1)) 0) ∧ (rdD cells (w64 ((x : Int) - 1)) 0) < (set.length : Int) then (some (((rdD set (rdD cells (w64 ((x : Int) - 1)) 0) z_Tile).E) == ((rdD set (i : Int) z_Tile).W))) else none) else none)) = some (follows set c i) := by
          by_cases h0 : x = 0
          · subst h0
            have : c = [] := List.eq_nil_of_length_eq_zero hc
            subst this
            rfl
          · have hn : c ≠ [] := by intro e; rw [e] at hc; simp at hc; omega
            have hw : w64 ((x : Int) - 1) = ((x - 1 : Nat) : Int) := by rw [w64_id (by omega) (by omega)]; omega
            have hz : rdD cells (((x - 1 : Nat) : Int)) 0 = ((c.getLast hn : Nat) : Int) := by
              rw [rdD_get (by omega)]
              have : cells[x - 1]'(by omega) = (cells.take x)[x - 1]'(by simp; omega) := by simp
              rw [this]
              simp only [hct, List.getLast_eq_getElem]
              simp [cz, hc]
            have hm := hcs _ (List.getLast_mem hn)
            rw [if_neg (by simp; omega), hw, if_pos (by omega), hz, if_pos (by omega), rdD_nat, rdD_nat]
            unfold follows
            rw [List.getLast?_eq_some_getLast hn]; rfl
        have hwi : w64 ((i : Int) + 1) = ((i + 1 : Nat) : Int) := by rw [w64_id (by omega) (by omega)]; rfl
        rw [rows_All_1.l0, if_pos (by simpa using hlt), if_pos (by omega), hcond, Option.bind_some, hwi]
        rw [List.range'_succ, List.filter_cons] at hb ⊢
        cases hf : follows set c i
        · rw [hf] at hb
          simp only [Bool.false_eq_true, if_false] at hb ⊢
          rw [Option.bind_some]
          exact ihd (i + 1) k' out cells (by omega) (by omega) hcl hct hb
        · rw [hf] at hb
          simp only [if_true, List.flatMap_cons, List.length_append] at hb ⊢
          have hset : (cells.set x (i : Int)).take (x + 1) = cz (c ++ [i]) := by
            rw [List.take_add_one, List.take_set_of_le (Nat.le_refl _), hct, List.getElem?_set_self (by omega)]
            simp [cz]
          have hw1 : w64 ((x : Int) + 1) = ((x + 1 : Nat) : Int) := by rw [w64_id (by omega) (by omega)]; rfl
          obtain ⟨cells1, e1, l1, t1⟩ := ih (x + 1) (c ++ [i]) out (cells.set x (i : Int)) k (by omega) (by simp [hc]) (fun j hj => by
            rcases List.mem_append.1 hj with hj | hj
            · exact hcs j hj
            · simp at hj; omega) (by simp [hcl]) hset (by omega) (by omega)
          have t1' : cells1.take x = cz c := by
            have : cells1.take x = (cells1.take (x + 1)).take x := by rw [List.take_take, Nat.min_eq_left (by omega)]
            rw [this, t1]
            simp [cz, ← hc]
          obtain ⟨cells2, e2, l2, t2⟩ := ihd (i + 1) k' (out ++ (rowsL set n (c ++ [i])).map (mkR set)) cells1 (by omega) (by omega) l1 t1' (by simp only [List.length_append, List.length_map]; omega)
          refine ⟨cells2, ?_, l2, t2⟩
          rw [if_pos (by omega), hw1]
          simp only [Int.toNat_natCast]
          rw [e1, Option.bind_some, Option.bind_some]
          show rows_All_1.l0 k' _ cells1 ((i + 1 : Nat) : Int) _ _ _ _ = _
          rw [e2, List.map_append, List.append_assoc]
    rw [rowsL] at hb
    rw [List.range_eq_range'] at hb
    obtain ⟨cells', e, l, t⟩ := key set.length 0 k out cells (by omega) (by omega) hcl hct hb
    refine ⟨cells', ?_, l, t⟩
    rw [rows_All_1, if_neg (by simp; omega)]
    have e' : rows_All_1.l0 k out cells 0 (x : Int) (w : Int) set (rows_All_1 k) = _ := e
    rw [e', Option.bind_some, rowsL, List.range_eq_range']
theorem rowsL_len (set : List Tile) : ∀ (n : Nat) (c : List Nat), (rowsL set n c).length ≤ set.length ^ n
  | 0, c => by simp [rowsL]
  | n + 1, c => by
    rw [rowsL, List.length_flatMap]
    have : ∀ l : List Nat, (l.map fun i => (rowsL set n (c ++ [i])).length).sum ≤ l.length * set.length ^ n := by
      intro l
      induction l with
      | nil => simp
      | cons a r ih =>
        simp only [List.map_cons, List.sum_cons, List.length_cons]
        have := rowsL_len set n (c ++ [a])
        rw [Nat.add_mul]; omega
    refine Nat.le_trans (this _) ?_
    have h2 : ((List.range set.length).filter (follows set c)).length ≤ set.length := by
      have := List.length_filter_le (follows set c) (List.range set.length); simpa using this
    rw [Nat.pow_succ, Nat.mul_comm (set.length ^ n)]
    exact Nat.mul_le_mul_right _ h2
def allR (set : List Tile) (w : Nat) : List Row := (rowsL set w []).map (mkR set)
theorem all_eq (set : List Tile) (w : Nat) (h1 : 1 ≤ w) (h8 : w ≤ 8) (hl : set.length ≤ 1000000) (hf : set.length ^ w ≤ 100000000000) {k : Nat} (hk : set.length + 20 < k) : rows_All k set (w : Int) = some (allR set w) := by
  have hb := rowsL_len set w []
  obtain ⟨cells, e, _, _⟩ := all1 set w h1 h8 hl w 0 [] [] (List.replicate w 0) k (by omega) rfl (fun i h => by cases h) (by simp) (by simp [cz]) (by simp; omega) (by omega)
  unfold rows_All
  have e' : rows_All_1 k 0 (w : Int) [] set (List.replicate w 0) = _ := e
  rw [if_pos (by omega), Int.toNat_natCast, e']; rfl
/-! few -/
def fewB (n w : Nat) : Bool := decide ((max n 1) ^ w ≤ 5000)
theorem few_eq (set : List Tile) (w : Nat) (hw : w ≤ 1000) (hl : set.length ≤ 1000000) {k : Nat} (hk : w < k) : rows_Few k set (w : Int) = some (fewB set.length w) := by
  have hm : maxI (set.length : Int) 1 = ((max set.length 1 : Nat) : Int) := by unfold maxI; split <;> omega
  obtain ⟨m, hmd⟩ : ∃ m, max set.length 1 = m := ⟨_, rfl⟩
  have hm1 : 1 ≤ m := by omega
  have hm2 : m ≤ 1000000 := by omega
  have key : ∀ d i k, i + d = w → d < k → m ^ i ≤ 5000 → rows_Few.l0 k ((m ^ i : Nat) : Int) (i : Int) set (w : Int) = some (if m ^ w ≤ 5000 then .inr () else .inl false) := by
    intro d
    induction d with
    | zero =>
      intro i k hi hk hp
      obtain ⟨k, rfl⟩ : ∃ m, k = m + 1 := ⟨k - 1, by omega⟩
      have : i = w := by omega
      subst this
      rw [rows_Few.l0, if_neg (by simp), if_pos hp]
    | succ d ih =>
      intro i k hi hk hp
      obtain ⟨k, rfl⟩ : ∃ m, k = m + 1 := ⟨k - 1, by omega⟩
      have hpp : m ^ i * m ≤ 5000 * 1000000 := Nat.mul_le_mul hp hm2
      have e : w64 (((m ^ i : Nat) : Int) * maxI (set.length : Int) 1) = ((m ^ (i + 1) : Nat) : Int) := by
        rw [hm, hmd, ← Int.natCast_mul, Nat.pow_succ, w64_id (by omega) (by omega)]
      have hle : m ^ (i + 1) ≤ m ^ w := Nat.pow_le_pow_right hm1 (by omega)
      obtain ⟨q, hq⟩ : ∃ q, m ^ (i + 1) = q := ⟨_, rfl⟩
      rw [rows_Few.l0, if_pos (by simp; omega), e]
      have hwi : w64 ((i : Int) + 1) = ((i + 1 : Nat) : Int) := by rw [w64_id (by omega) (by omega)]; rfl
      by_cases h5 : q ≤ 5000
      · rw [if_neg (by rw [hq]; simp; omega), hwi]
        exact ih (i + 1) k (by omega) (by omega) (by rw [hq]; exact h5)
      · rw [if_pos (by rw [hq]; simp; omega), if_neg]
        intro hw5
        omega
  have := key w 0 k (by omega) hk (by simp)
  have h0 : rows_Few.l0 k 1 0 set (w : Int) = _ := this
  unfold rows_Few fewB
  rw [h0, hmd]
  by_cases h5 : m ^ w ≤ 5000
  · rw [if_pos h5]; simp [sumb, h5]
  · rw [if_neg h5]; simp [sumb, h5]
end Gp
set_option linter.unusedVariables false
set_option linter.unusedSimpArgs false
namespace Gq
open Gw
theorem mget_mput {κ ν : Type} [DecidableEq κ] (x y : κ) (z v : ν) : ∀ l : List (κ × ν), mget x z (mput y v l) = if x = y then v else mget x z l
  | [] => by simp [mput, mget]
  | p :: r => by
    simp only [mput]
    by_cases h : y = p.1
    · rw [if_pos h]
      simp only [mget]
      by_cases hx : x = y
      · rw [if_pos hx, if_pos hx]
      · rw [if_neg hx, if_neg hx, if_neg (fun e => hx (e.trans h.symm))]
    · rw [if_neg h]
      simp only [mget]
      by_cases hx : x = p.1
      · rw [if_pos hx, if_pos hx, if_neg (fun e => h (e.symm.trans hx))]
      · rw [if_neg hx, if_neg hx]; exact mget_mput x y z v r
theorem mget_marks {α κ : Type} [DecidableEq κ] (key : α → κ) (c : α → Bool) (x : κ) : ∀ (l : List α) (m : List (κ × Bool)), mget x false (l.foldl (fun m a => if c a = true then mput (key a) true m else m) m) = (mget x false m || l.any fun a => decide (key a = x) && c a)
  | [], m => by simp
  | a :: r, m => by
    rw [List.foldl_cons, mget_marks key c x r, List.any_cons]
    cases hc : c a
    · simp
    · simp only [if_true, mget_mput, Bool.and_true]
      by_cases h : x = key a
      · simp [h]
      · have : ¬ key a = x := fun e => h e.symm
        simp [h, this]
end Gq
namespace Gp
open Gw Gq
/-! ### rectangles that are filled -/
theorem word_beq (a b : A8_Int) : (a.e0 == b.e0 && (a.e1 == b.e1 && (a.e2 == b.e2 && (a.e3 == b.e3 && (a.e4 == b.e4 && (a.e5 == b.e5 && (a.e6 == b.e6 && a.e7 == b.e7))))))) = decide (a = b) := by
  rw [Bool.eq_iff_iff, decide_eq_true_eq]
  simp only [Bool.and_eq_true, beq_iff_eq]
  constructor
  · rintro ⟨h0, h1, h2, h3, h4, h5, h6, h7⟩; cases a; cases b; simp_all
  · intro h; subst h; simp
def atB (l : List Int) (i : Nat) (c : Int) : Bool := decide (l.length = 0) || l.getD i 0 == c
theorem at_eq' (l : List Int) (i : Nat) (c : Int) (h : l.length = 0 ∨ i < l.length) : fill_at l (i : Int) c = some (atB l i c) := by
  unfold fill_at atB
  by_cases h0 : l.length = 0
  · rw [if_pos (by simp [h0])]; simp [h0]
  · rw [if_neg (by simp; simpa using h0), if_pos (by omega), rdD_nat]; simp [h0]
structure EdgeOK (e : Edges) (w h : Nat) : Prop where
  n : e.North.length = 0 ∨ e.North.length = w
  s : e.South.length = 0 ∨ e.South.length = w
  ea : e.East.length = 0 ∨ e.East.length = h
  we : e.West.length = 0 ∨ e.West.length = h
def colE (e : Edges) (h : Nat) (r : Row) (y x : Nat) : Bool := (!(decide (y = 0)) || atB e.South x (r.South.get x)) && (!(decide (y + 1 = h)) || atB e.North x (r.North.get x))
def alB (e : Edges) (w h : Nat) (r : Row) (y : Nat) : Bool := atB e.West y r.West && atB e.East y r.East && (List.range w).all (colE e h r y)
theorem allows_eq {e : Edges} {w h : Nat} (he : EdgeOK e w h) (hw : w ≤ 8) (hh : h ≤ 1000) (R : List Row) (r : Row) {y : Nat} (hy : y < h) {k : Nat} (hk : w < k) : fill_job_allows k ⟨R, w, h, e⟩ r (y : Int) = some (alB e w h r y) := by
  have hl := loop_all (F := fun k x (_ : Unit) => fill_job_allows.l0 k x ⟨R, w, h, e⟩ r (y : Int)) (S := fun _ => ()) (b := colE e h r y) (n := w) (K := 0) (r := false) (e := ()) (fun k x _ hx => by
    show fill_job_allows.l0 (k + 1) x ⟨R, w, h, e⟩ r (y : Int) = if colE e h r y x = true then fill_job_allows.l0 k ((x + 1 : Nat) : Int) ⟨R, w, h, e⟩ r (y : Int) else _
    have hwx : w64 ((x : Int) + 1) = ((x + 1 : Nat) : Int) := by rw [w64_id (by omega) (by omega)]; rfl
    have hwh : w64 ((h : Int) - 1) = ((h - 1 : Nat) : Int) := by rw [w64_id (by omega) (by omega)]; omega
    have hx8 : 0 ≤ (x : Int) ∧ (x : Int) < 8 := by omega
    have hS := at_eq' e.South x (r.South.get x) (he.s.imp id (fun h => by omega))
    have hN := at_eq' e.North x (r.North.get x) (he.n.imp id (fun h => by omega))
    rw [fill_job_allows.l0, if_pos (by simpa using hx), hwx, hwh]
    simp only [if_pos hx8, hS, hN, Option.bind_some]
    have e1 : ((y : Int) == ((h - 1 : Nat) : Int)) = decide (y + 1 = h) := by
      rw [Bool.eq_iff_iff]; simp; omega
    have e0 : ((y : Int) == 0) = decide (y = 0) := by rw [Bool.eq_iff_iff]; simp
    rw [e1, e0]
    unfold colE
    cases decide (y = 0) <;> cases decide (y + 1 = h) <;> cases atB e.South x (r.South.get x) <;> cases atB e.North x (r.North.get x) <;> simp) (fun k => by
    show fill_job_allows.l0 (k + 1) w ⟨R, w, h, e⟩ r (y : Int) = _
    rw [fill_job_allows.l0, if_neg (by simp)]) k (by omega)
  have h0 : fill_job_allows.l0 k 0 ⟨R, w, h, e⟩ r (y : Int) = some (if (List.range w).all (colE e h r y) = true then .inr () else .inl false) := hl
  unfold fill_job_allows alB
  rw [at_eq' e.West y r.West (he.we.imp id (fun h => by omega)), at_eq' e.East y r.East (he.ea.imp id (fun h => by omega)), h0]
  simp only [Option.bind_some]
  cases atB e.West y r.West <;> cases atB e.East y r.East <;> cases (List.range w).all (colE e h r y) <;> simp [sumb]
def canUp (R : List Row) (al : Row → Nat → Bool) (h : Nat) : Nat → Row → Bool
  | 0, r => al r (h - 1)
  | n + 1, r => al r (h - 1 - (n + 1)) && R.any fun r' => decide (r'.South = r.North) && canUp R al h n r'
def OkAt (R : List Row) (al : Row → Nat → Bool) (h : Nat) (ok : List (Option (List (A8_Int × Bool)))) (y : Nat) : Prop := ∃ m, ok[y]? = some (some m) ∧ ∀ s, mget s false m = R.any fun r => decide (r.South = s) && canUp R al h (h - 1 - y) r
theorem first_l3 {e : Edges} {w h : Nat} (he : EdgeOK e w h) (hw : w ≤ 8) (hh : h ≤ 1000) (R : List Row) (hR : R.length ≤ 1000000) {y : Nat} (hy : y < h) (ok : List (Option (List (A8_Int × Bool)))) (hlen : ok.length = h) (hup : y + 1 < h → OkAt R (alB e w h) h ok (y + 1)) {k : Nat} (hk : R.length + w + 1 < k) :
    fill_First.l3 k (ok.set y (some [])) 0 (h : Int) e ⟨R, w, h, e⟩ (y : Int) = some (ok.set y (some (R.foldl (fun m r => if canUp R (alB e w h) h (h - 1 - y) r = true then mput r.South true m else m) []))) := by
  have hwh : w64 ((h : Int) - 1) = ((h - 1 : Nat) : Int) := by rw [w64_id (by omega) (by omega)]; omega
  have hwy : w64 ((y : Int) + 1) = ((y + 1 : Nat) : Int) := by rw [w64_id (by omega) (by omega)]; rfl
  have hl := loop_list (F := fun k i (m : List (A8_Int × Bool)) => fill_First.l3 k (ok.set y (some m)) i (h : Int) e ⟨R, w, h, e⟩ (y : Int)) R (fun m r => if canUp R (alB e w h) h (h - 1 - y) r = true then mput r.South true m else m) (w + 1) (fun _ _ => True) (fun m => ok.set y (some m)) (fun k i m hi hk _ => by
    refine ⟨?_, trivial⟩
    show fill_First.l3 (k + 1) (ok.set y (some m)) i (h : Int) e ⟨R, w, h, e⟩ (y : Int) = _
    have hwi : w64 ((i : Int) + 1) = ((i + 1 : Nat) : Int) := by rw [w64_id (by omega) (by omega)]; rfl
    have hal : ∀ r, fill_job_allows k (Job.mk R w h e) r (y : Int) = some (alB e w h r y) := fun r => allows_eq he hw hh R r hy (by omega)
    rw [fill_First.l3, if_pos (by simpa using hi), if_pos (by simp; omega)]
    simp only [hal, rdD_get hi, hwh, hwy, hwi, Option.bind_some]
    have hcond : (if (((y : Int) == ((h - 1 : Nat) : Int)) = true) then (some (alB e w h R[i] y)) else ((if alB e w h R[i] y = true then (if 0 ≤ ((y + 1 : Nat) : Int) ∧ ((y + 1 : Nat) : Int) < ((ok.set y (some m)).length : Int) then ((rdD (ok.set y (some m)) ((y + 1 : Nat) : Int) none).bind fun m5799 => (some (mget R[i].North false m5799))) else none) else (some false)).bind fun b => some b)) = some (canUp R (alB e w h) h (h - 1 - y) R[i]) := by
      by_cases hlast : y + 1 = h
      · rw [if_pos (by simp; omega)]
        have : h - 1 - y = 0 := by omega
        rw [this, canUp, show h - 1 = y by omega]
      · rw [if_neg (by simp; omega), if_pos (show 0 ≤ ((y + 1 : Nat) : Int) ∧ ((y + 1 : Nat) : Int) < ((ok.set y (some m)).length : Int) by simp; omega), rdD_nat]
        obtain ⟨m', hm1, hm2⟩ := hup (by omega)
        have hg : (ok.set y (some m)).getD (y + 1) none = some m' := by
          rw [List.getD_eq_getElem?_getD, List.getElem?_set_ne (by omega), hm1]; rfl
        rw [hg, Option.bind_some, hm2]
        have : h - 1 - y = (h - 1 - (y + 1)) + 1 := by omega
        rw [this, canUp, show h - 1 - (h - 1 - (y + 1) + 1) = y by omega]
        cases alB e w h R[i] y <;> rfl
    have hc2 := hcond
    rw [hc2, Option.bind_some]
    have hg : rdD (ok.set y (some m)) (y : Int) none = some m := by
      rw [rdD_nat, List.getD_eq_getElem?_getD, List.getElem?_set_self (by omega)]; rfl
    rw [hg]
    cases hcu : canUp R (alB e w h) h (h - 1 - y) R[i]
    · simp
    · simp only [if_true]
      rw [if_pos (by simp; omega)]
      simp [List.set_set]) (fun k m _ => by
    show fill_First.l3 (k + 1) (ok.set y (some m)) R.length (h : Int) e ⟨R, w, h, e⟩ (y : Int) = _
    rw [fill_First.l3, if_neg (by simp)]) [] trivial k (by omega)
  exact hl
theorem first_l2 {e : Edges} {w h : Nat} (he : EdgeOK e w h) (hw : w ≤ 8) (hh : h ≤ 1000) (R : List Row) (hR : R.length ≤ 1000000) : ∀ (n : Nat) (ok : List (Option (List (A8_Int × Bool)))) (k : Nat), n ≤ h → ok.length = h → (∀ y, n ≤ y → y < h → OkAt R (alB e w h) h ok y) → R.length + w + n + 2 < k →
    ∃ ok', fill_First.l2 k ok ((n : Int) - 1) (h : Int) e ⟨R, w, h, e⟩ = some ok' ∧ ok'.length = h ∧ ∀ y, y < h → OkAt R (alB e w h) h ok' y := by
  intro n
  induction n with
  | zero =>
    intro ok k hn hl hok hk
    obtain ⟨k, rfl⟩ : ∃ m, k = m + 1 := ⟨k - 1, by omega⟩
    exact ⟨ok, by rw [fill_First.l2, if_neg (by simp)], hl, fun y hy => hok y (by omega) hy⟩
  | succ n ih =>
    intro ok k hn hl hok hk
    obtain ⟨k, rfl⟩ : ∃ m, k = m + 1 := ⟨k - 1, by omega⟩
    have e1 : (((n + 1 : Nat) : Int) - 1) = (n : Int) := by omega
    rw [e1, fill_First.l2, if_pos (by simp), if_pos (by omega)]
    have hwn : w64 ((n : Int) - 1) = (n : Int) - 1 := w64_id (by omega) (by omega)
    rw [Int.toNat_natCast, first_l3 he hw hh R hR (by omega) ok hl (fun h1 => hok (n + 1) (by omega) h1) (by omega), Option.bind_some, hwn]
    refine ih _ k (by omega) (by simpa using hl) (fun y hy1 hy2 => ?_) (by omega)
    by_cases hyn : y = n
    · subst hyn
      refine ⟨_, List.getElem?_set_self (by omega), fun s => ?_⟩
      rw [mget_marks]; simp [mget]
    · obtain ⟨m, h1, h2⟩ := hok y (by omega) hy2
      exact ⟨m, by rw [List.getElem?_set_ne (by omega)]; exact h1, h2⟩
def firstIdx {α : Type} (p : α → Bool) : Nat → List α → Int
  | _, [] => -1
  | i, a :: r => if p a = true then (i : Int) else firstIdx p (i + 1) r
def belowB (R : List Row) (b : Option Nat) (r : Row) : Bool := match b with
  | none => true
  | some i => decide ((R.getD i z_Row).North = r.South)
def bz (b : Option Nat) : Option Int := b.map fun (i : Nat) => (i : Int)
theorem first_l5 {e : Edges} {w h : Nat} (he : EdgeOK e w h) (hw : w ≤ 8) (hh : h ≤ 1000) (R : List Row) (hR : R.length ≤ 1000000) {y : Nat} (hy : y < h) (ok : List (Option (List (A8_Int × Bool)))) (hlen : ok.length = h) (hok : ∀ y, y < h → OkAt R (alB e w h) h ok y) (b : Option Nat) (hb : ∀ i, b = some i → i < R.length) {k : Nat} (hk : R.length + w < k) :
    fill_First.l5 k (bz b) 0 (h : Int) e ⟨R, w, h, e⟩ ok (y : Int) = some (firstIdx (fun r => canUp R (alB e w h) h (h - 1 - y) r && belowB R b r) 0 R) := by
  have hwh : w64 ((h : Int) - 1) = ((h - 1 : Nat) : Int) := by rw [w64_id (by omega) (by omega)]; omega
  have hwy : w64 ((y : Int) + 1) = ((y + 1 : Nat) : Int) := by rw [w64_id (by omega) (by omega)]; rfl
  have key : ∀ d i k, i + d = R.length → d + w < k → fill_First.l5 k (bz b) (i : Int) (h : Int) e ⟨R, w, h, e⟩ ok (y : Int) = some (firstIdx (fun r => canUp R (alB e w h) h (h - 1 - y) r && belowB R b r) i (R.drop i)) := by
    intro d
    induction d with
    | zero =>
      intro i k hi hk
      obtain ⟨k, rfl⟩ : ∃ m, k = m + 1 := ⟨k - 1, by omega⟩
      have : i = R.length := by omega
      subst this
      rw [fill_First.l5, if_neg (by simp), List.drop_length]; rfl
    | succ d ih =>
      intro i k hi hk
      obtain ⟨k, rfl⟩ : ∃ m, k = m + 1 := ⟨k - 1, by omega⟩
      have hlt : i < R.length := by omega
      have hwi : w64 ((i : Int) + 1) = ((i + 1 : Nat) : Int) := by rw [w64_id (by omega) (by omega)]; rfl
      have hal : ∀ r, fill_job_allows k (Job.mk R w h e) r (y : Int) = some (alB e w h r y) := fun r => allows_eq he hw hh R r hy (by omega)
      have hbel : optM (bz b) (some true) (fun j => if 0 ≤ j ∧ j < (R.length : Int) then (some ((((rdD R j z_Row).North).e0) == (R[i].South.e0) && ((((rdD R j z_Row).North).e1) == (R[i].South.e1) && ((((rdD R j z_Row).North).e2) == (R[i].South.e2) && ((((rdD R j z_Row).North).e3) == (R[i].South.e3) && ((((rdD R j z_Row).North).e4) == (R[i].South.e4) && ((((rdD R j z_Row).North).e5) == (R[i].South.e5) && ((((rdD R j z_Row).North).e6) == (R[i].South.e6) && (((rdD R j z_Row).North).e7) == (R[i].South.e7))))))))) else none) = some (belowB R b R[i]) := by
        cases b with
        | none => rfl
        | some j =>
          have := hb j rfl
          show (if 0 ≤ (j : Int) ∧ (j : Int) < (R.length : Int) then _ else none) = _
          rw [if_pos (by omega), rdD_nat, word_beq]; rfl
      rw [fill_First.l5, if_pos (by simpa using hlt), if_pos (by simp; omega)]
      simp only [hal, rdD_get hlt, hwh, hwy, hwi, Option.bind_some, hbel]
      rw [List.drop_eq_getElem_cons hlt, firstIdx]
      have hcond : (if (((y : Int) == ((h - 1 : Nat) : Int)) = true) then ((if alB e w h R[i] y = true then (some (belowB R b R[i])) else (some false)).bind fun b => some b) else ((if alB e w h R[i] y = true then (some (belowB R b R[i])) else (some false)).bind fun b5786 => (if b5786 = true then (if 0 ≤ ((y + 1 : Nat) : Int) ∧ ((y + 1 : Nat) : Int) < (ok.length : Int) then ((rdD ok ((y + 1 : Nat) : Int) none).bind fun m5799 => (some (mget R[i].North false m5799))) else none) else (some false)).bind fun b => some b)) = some (canUp R (alB e w h) h (h - 1 - y) R[i] && belowB R b R[i]) := by
        by_cases hlast : y + 1 = h
        · rw [if_pos (by simp; omega)]
          have : h - 1 - y = 0 := by omega
          rw [this, canUp, show h - 1 = y by omega]
          cases alB e w h R[i] y <;> simp
        · rw [if_neg (by simp; omega), if_pos (show 0 ≤ ((y + 1 : Nat) : Int) ∧ ((y + 1 : Nat) : Int) < (ok.length : Int) by omega), rdD_nat]
          obtain ⟨m', hm1, hm2⟩ := hok (y + 1) (by omega)
          have hg : ok.getD (y + 1) none = some m' := by rw [List.getD_eq_getElem?_getD, hm1]; rfl
          rw [hg, Option.bind_some, hm2]
          have : h - 1 - y = (h - 1 - (y + 1)) + 1 := by omega
          rw [this, canUp, show h - 1 - (h - 1 - (y + 1) + 1) = y by omega]
          cases alB e w h R[i] y <;> cases belowB R b R[i] <;> simp
      have hc2 := hcond
      rw [hc2, Option.bind_some]
      cases hcu : (canUp R (alB e w h) h (h - 1 - y) R[i] && belowB R b R[i])
      · simp only [Bool.false_eq_true, if_false]
        exact ih (i + 1) k (by omega) (by omega)
      · rfl
  have := key R.length 0 k (by omega) hk
  simpa using this
end Gp
set_option linter.unusedVariables false
set_option linter.unusedSimpArgs false
namespace Gp
open Gw Gq
theorem firstIdx_eq {α : Type} (p : α → Bool) : ∀ (l : List α) (i : Nat), firstIdx p i l = match l.findIdx? p with
    | none => -1
    | some j => ((i + j : Nat) : Int)
  | [], i => rfl
  | a :: r, i => by
    rw [firstIdx, List.findIdx?_cons]
    cases p a
    · simp only [Bool.false_eq_true, if_false]
      rw [firstIdx_eq p r (i + 1)]
      cases r.findIdx? p with
      | none => rfl
      | some j => simp only [Option.map_some]; congr 1; omega
    · simp
def greedy (R : List Row) (al : Row → Nat → Bool) (h : Nat) : Nat → Option Nat → Option (List Nat)
  | 0, _ => some []
  | m + 1, b => match R.findIdx? (fun r => canUp R al h m r && belowB R b r) with
    | none => none
    | some i => (greedy R al h m (some i)).map (i :: ·)
def cellsOf (R : List Row) (l : List Nat) : List Int := l.flatMap fun i => (R.getD i z_Row).Cells
def p0P : Pattern := ⟨0, 0, []⟩
theorem findIdx_lt {α : Type} {p : α → Bool} {l : List α} {i : Nat} (h : l.findIdx? p = some i) : ∃ hi : i < l.length, p l[i] = true := by
  rw [List.findIdx?_eq_some_iff_getElem] at h
  exact ⟨h.1, h.2.1⟩
theorem first_l4 {e : Edges} {w h : Nat} (he : EdgeOK e w h) (hw : w ≤ 8) (hh : h ≤ 1000) (R : List Row) (hR : R.length ≤ 1000000) (hC : ∀ r ∈ R, r.Cells.length ≤ 8) (ok : List (Option (List (A8_Int × Bool)))) (hlen : ok.length = h) (hok : ∀ y, y < h → OkAt R (alB e w h) h ok y) :
    ∀ (m : Nat) (cells : List Int) (b : Option Nat) (k : Nat), m ≤ h → (∀ i, b = some i → i < R.length) → cells.length + 8 * m ≤ 100000000000 → m + R.length + w + 1 < k →
      fill_First.l4 k cells (bz b) ((h - m : Nat) : Int) (h : Int) e ⟨R, w, h, e⟩ ok = some (match greedy R (alB e w h) h m b with
        | none => .inl (p0P, 6)
        | some l => .inr (cells ++ cellsOf R l)) := by
  intro m
  induction m with
  | zero =>
    intro cells b k hm hb hc hk
    obtain ⟨k, rfl⟩ : ∃ m, k = m + 1 := ⟨k - 1, by omega⟩
    rw [fill_First.l4, if_neg (by simp)]
    simp [greedy, cellsOf]
  | succ m ih =>
    intro cells b k hm hb hc hk
    obtain ⟨k, rfl⟩ : ∃ m, k = m + 1 := ⟨k - 1, by omega⟩
    have hwy : w64 (((h - (m + 1) : Nat) : Int) + 1) = ((h - m : Nat) : Int) := by rw [w64_id (by omega) (by omega)]; omega
    rw [fill_First.l4, if_pos (by simp; omega), first_l5 he hw hh R hR (y := h - (m + 1)) (by omega) ok hlen hok b hb (by omega), Option.bind_some, firstIdx_eq, greedy, show h - 1 - (h - (m + 1)) = m by omega]
    cases hf : R.findIdx? (fun r => canUp R (alB e w h) h m r && belowB R b r) with
    | none => simp [p0P]
    | some i =>
      obtain ⟨hi, _⟩ := findIdx_lt hf
      have hCi := hC R[i] (List.getElem_mem _)
      have hzi : ((0 + i : Nat) : Int) = (i : Int) := by omega
      simp only [hzi]
      rw [if_neg (by simp), if_pos (by omega), rdD_get hi, if_pos (by omega), hwy]
      have := ih (cells ++ R[i].Cells) (some i) k (by omega) (fun j hj => by injection hj with hj; omega) (by rw [List.length_append]; omega) (by omega)
      have this' : fill_First.l4 k (cells ++ R[i].Cells) (some (i : Int)) ((h - m : Nat) : Int) (h : Int) e ⟨R, w, h, e⟩ ok = _ := this
      rw [this']
      cases greedy R (alB e w h) h m (some i) with
      | none => rfl
      | some l =>
        simp only [Option.map_some]
        simp [cellsOf, List.getElem?_eq_getElem hi]
theorem canUp_greedy (R : List Row) (al : Row → Nat → Bool) (h : Nat) : ∀ (m : Nat) (i : Nat) (hi : i < R.length), canUp R al h m R[i] = true → greedy R al h m (some i) ≠ none
  | 0, i, hi, _ => by simp [greedy]
  | m + 1, i, hi, hc => by
    rw [canUp, Bool.and_eq_true, List.any_eq_true] at hc
    obtain ⟨_, r', hr', hc'⟩ := hc
    rw [Bool.and_eq_true, decide_eq_true_eq] at hc'
    rw [greedy]
    cases hf : R.findIdx? (fun r => canUp R al h m r && belowB R (some i) r) with
    | none =>
      rw [List.findIdx?_eq_none_iff] at hf
      have := hf r' hr'
      have hb : belowB R (some i) r' = true := by simp [belowB, List.getElem?_eq_getElem hi, hc'.1]
      rw [hc'.2, hb] at this; cases this
    | some j =>
      obtain ⟨hj, hp⟩ := findIdx_lt hf
      rw [Bool.and_eq_true] at hp
      have := canUp_greedy R al h m j hj hp.1
      cases hg : greedy R al h m (some j) with
      | none => exact absurd hg this
      | some l => simp [hg]
theorem greedy_none (R : List Row) (al : Row → Nat → Bool) (h m : Nat) : greedy R al h (m + 1) none = none ↔ ∀ r ∈ R, canUp R al h m r = false := by
  rw [greedy]
  constructor
  · intro hg r hr
    cases hf : R.findIdx? (fun r => canUp R al h m r && belowB R none r) with
    | none =>
      rw [List.findIdx?_eq_none_iff] at hf
      simpa [belowB] using hf r hr
    | some i =>
      exfalso
      obtain ⟨hi, hp⟩ := findIdx_lt hf
      rw [Bool.and_eq_true] at hp
      have := canUp_greedy R al h m i hi hp.1
      rw [hf] at hg
      cases hg2 : greedy R al h m (some i) with
      | none => exact this hg2
      | some l => simp only [hg2] at hg; cases hg
  · intro hn
    have hf : R.findIdx? (fun r => canUp R al h m r && belowB R none r) = none := by
      rw [List.findIdx?_eq_none_iff]; intro r hr; rw [hn r hr]; rfl
    rw [hf]
/-! the whole function -/
def sidesB (e : Edges) (w h : Int) : Bool := (decide (e.North.length = 0) || decide ((e.North.length : Int) = w)) && (decide (e.South.length = 0) || decide ((e.South.length : Int) = w)) && (decide (e.East.length = 0) || decide ((e.East.length : Int) = h)) && (decide (e.West.length = 0) || decide ((e.West.length : Int) = h))
theorem begin_l0 (e : Edges) (w h : Int) (k : Nat) : fill_begin.l0 (k + 5) 0 w h e = some (if sidesB e w h = true then .inr () else .inl (none, 2)) := by
  have hside : ∀ (l : List Int) (n : Int), ((((l.length : Int) != 0) && ((l.length : Int) != n)) = !(decide (l.length = 0) || decide ((l.length : Int) = n))) := fun l n => by
    rw [Bool.eq_iff_iff]; simp
  have h1 : w64 (0 + 1) = 1 := by rw [w64_id (by omega) (by omega)]; rfl
  have h2 : w64 (1 + 1) = 2 := by rw [w64_id (by omega) (by omega)]; rfl
  have h3 : w64 (2 + 1) = 3 := by rw [w64_id (by omega) (by omega)]; rfl
  have h4 : w64 (3 + 1) = 4 := by rw [w64_id (by omega) (by omega)]; rfl
  unfold sidesB
  rw [fill_begin.l0, if_pos (by simp), if_pos (by simp), show rdD [(S_side_n.mk e.North w), (S_side_n.mk e.South w), (S_side_n.mk e.East h), (S_side_n.mk e.West h)] 0 z_S_side_n = S_side_n.mk e.North w from rfl, h1, hside]
  cases ha : (decide (e.North.length = 0) || decide ((e.North.length : Int) = w))
  · simp
  rw [if_neg (by simp), fill_begin.l0, if_pos (by simp), if_pos (by simp), show rdD [(S_side_n.mk e.North w), (S_side_n.mk e.South w), (S_side_n.mk e.East h), (S_side_n.mk e.West h)] 1 z_S_side_n = S_side_n.mk e.South w from rfl, h2, hside]
  cases hb : (decide (e.South.length = 0) || decide ((e.South.length : Int) = w))
  · simp
  rw [if_neg (by simp), fill_begin.l0, if_pos (by simp), if_pos (by simp), show rdD [(S_side_n.mk e.North w), (S_side_n.mk e.South w), (S_side_n.mk e.East h), (S_side_n.mk e.West h)] 2 z_S_side_n = S_side_n.mk e.East h from rfl, h3, hside]
  cases hc : (decide (e.East.length = 0) || decide ((e.East.length : Int) = h))
  · simp
  rw [if_neg (by simp), fill_begin.l0, if_pos (by simp), if_pos (by simp), show rdD [(S_side_n.mk e.North w), (S_side_n.mk e.South w), (S_side_n.mk e.East h), (S_side_n.mk e.West h)] 3 z_S_side_n = S_side_n.mk e.West h from rfl, h4, hside]
  cases hd : (decide (e.West.length = 0) || decide ((e.West.length : Int) = h))
  · simp
  rw [if_neg (by simp), fill_begin.l0, if_neg (by simp)]
  simp
theorem max_pow {n w : Nat} (h : fewB n w = true) : n ^ w ≤ 5000 := by
  unfold fewB at h
  rw [decide_eq_true_eq] at h
  exact Nat.le_trans (Nat.pow_le_pow_left (Nat.le_max_left n 1) w) h
def firstX (set : List Tile) (w h : Nat) (e : Edges) : Pattern × Int := match greedy (allR set w) (alB e w h) h h none with
  | none => (p0P, 6)
  | some l => (⟨w, h, cellsOf (allR set w) l⟩, 0)
theorem allR_len (set : List Tile) (w : Nat) : (allR set w).length ≤ set.length ^ w := by
  unfold allR; rw [List.length_map]; exact rowsL_len set w []
theorem rowsL_length (set : List Tile) : ∀ (n : Nat) (c d : List Nat), d ∈ rowsL set n c → d.length = c.length + n
  | 0, c, d, h => by simp [rowsL] at h; subst h; rfl
  | n + 1, c, d, h => by
    rw [rowsL, List.mem_flatMap] at h
    obtain ⟨i, _, h⟩ := h
    have := rowsL_length set n _ d h
    simp at this; omega
theorem first_ok (set : List Tile) (w h : Nat) (e : Edges) (hv : validT set = true) (hw : 1 ≤ w ∧ w ≤ 8) (hh : 1 ≤ h ∧ h ≤ 60) (he : sidesB e w h = true) (hf : fewB set.length w = true) {k : Nat} (hk : 10000 < k) : fill_First k set w h e = some (firstX set w h e) := by
  have hl := valid_len hv
  have hp := max_pow hf
  have hRl := allR_len set w
  have heo : EdgeOK e w h := by
    unfold sidesB at he
    simp only [Bool.and_eq_true, Bool.or_eq_true, decide_eq_true_eq] at he
    exact ⟨he.1.1.1.imp id (fun h => by omega), he.1.1.2.imp id (fun h => by omega), he.1.2.imp id (fun h => by omega), he.2.imp id (fun h => by omega)⟩
  have hC : ∀ r ∈ allR set w, r.Cells.length ≤ 8 := by
    intro r hr
    unfold allR at hr
    obtain ⟨c, hc, rfl⟩ := List.mem_map.1 hr
    have := rowsL_length set w [] c hc
    simp [mkR, cz]; simp at this; omega
  obtain ⟨j, rfl⟩ : ∃ j, k = j + 5 := ⟨k - 5, by omega⟩
  unfold fill_First fill_begin
  rw [tile_valid set (by omega) (by omega), hv, Option.bind_some, if_neg (by simp), if_neg (by simp; omega), begin_l0, he, few_eq set w (by omega) (by omega) (by omega), hf, all_eq set w hw.1 hw.2 (by omega) (by omega) (by omega)]
  simp only [if_true, Option.bind_some, sumb, Bool.not_true, Bool.false_eq_true, if_false, optM, bne_self_eq_false]
  have hwh : w64 ((h : Int) - 1) = (h : Int) - 1 := w64_id (by omega) (by omega)
  rw [if_pos (by omega), Int.toNat_natCast, hwh]
  obtain ⟨ok', e1, l1, o1⟩ := first_l2 heo hw.2 (by omega) (allR set w) (by omega) h (List.replicate h none) (j + 5) (Nat.le_refl _) (by simp) (fun y h1 h2 => by omega) (by omega)
  rw [e1, Option.bind_some]
  have e2 := first_l4 heo hw.2 (by omega) (allR set w) (by omega) hC ok' l1 o1 h [] none (j + 5) (Nat.le_refl _) (fun i hi => by cases hi) (by simp; omega) (by omega)
  rw [Nat.sub_self] at e2
  have e2' : fill_First.l4 (j + 5) [] none 0 (h : Int) e ⟨allR set w, w, h, e⟩ ok' = _ := e2
  rw [e2', Option.bind_some]
  unfold firstX
  cases greedy (allR set w) (alB e w h) h h none with
  | none => rfl
  | some l => simp [sumb]
theorem first_bad (set : List Tile) (w h : Int) (e : Edges) (hl : set.length ≤ 9223372036854775807) {k : Nat} (hk : 10000 < k) :
    (validT set = false → fill_First k set w h e = some (p0P, 1)) ∧ (validT set = true → ¬ (1 ≤ w ∧ w ≤ 8 ∧ 1 ≤ h ∧ h ≤ 60) → fill_First k set w h e = some (p0P, 2)) ∧
    (validT set = true → (1 ≤ w ∧ w ≤ 8 ∧ 1 ≤ h ∧ h ≤ 60) → sidesB e w h = false → fill_First k set w h e = some (p0P, 2)) ∧ (validT set = true → (1 ≤ w ∧ w ≤ 8 ∧ 1 ≤ h ∧ h ≤ 60) → sidesB e w h = true → fewB set.length w.toNat = false → fill_First k set w h e = some (p0P, 4)) := by
  obtain ⟨j, rfl⟩ : ∃ j, k = j + 5 := ⟨k - 5, by omega⟩
  unfold fill_First fill_begin
  rw [tile_valid set (by omega) hl]
  refine ⟨fun hv => ?_, fun hv hn => ?_, fun hv hn hs => ?_, fun hv hn hs hf => ?_⟩
  · rw [hv]; rfl
  · rw [hv, Option.bind_some, if_neg (by simp), if_pos (by simp; omega)]; rfl
  · rw [hv, Option.bind_some, if_neg (by simp), if_neg (by simp; omega), begin_l0, hs]; rfl
  · have h8 := valid_len hv
    have hfe := few_eq set w.toNat (by omega) (by omega) (k := j + 5) (by omega)
    rw [Int.toNat_of_nonneg (by omega)] at hfe
    rw [hv, Option.bind_some, if_neg (by simp), if_neg (by simp; omega), begin_l0, hs, hfe, hf]; rfl
end Gp
set_option linter.unusedVariables false
set_option linter.unusedSimpArgs false
namespace Gp
open Gw Gq
/-! ### rows and patterns -/
theorem mem_rowsL0 (set : List Tile) : ∀ (n : Nat) (pre c : List Nat), c ∈ rowsL set n pre ↔ c.take pre.length = pre ∧ c.length = pre.length + n ∧ ∀ j, pre.length ≤ j → j < c.length → c.getD j 0 < set.length ∧ follows set (c.take j) (c.getD j 0) = true
  | 0, pre, c => by
    rw [rowsL, List.mem_singleton]
    constructor
    · intro h; subst h; exact ⟨List.take_length, rfl, fun j h1 h2 => by omega⟩
    · rintro ⟨h1, h2, _⟩
      rw [← h1, List.take_of_length_le (by omega)]
  | n + 1, pre, c => by
    rw [rowsL, List.mem_flatMap]
    constructor
    · rintro ⟨i, hi, hc⟩
      rw [List.mem_filter, List.mem_range] at hi
      obtain ⟨h1, h2, h3⟩ := (mem_rowsL0 set n (pre ++ [i]) c).1 hc
      rw [List.length_append, List.length_singleton] at h1 h2 h3
      have hp : c.take pre.length = pre := by
        have : c.take pre.length = (c.take (pre.length + 1)).take pre.length := by rw [List.take_take, Nat.min_eq_left (by omega)]
        rw [this, h1]; simp
      refine ⟨hp, by omega, fun j hj1 hj2 => ?_⟩
      by_cases e : j = pre.length
      · subst e
        have hg : c.getD pre.length 0 = i := by
          have h5 : (c.take (pre.length + 1))[pre.length]? = some i := by rw [h1]; simp
          rw [List.getElem?_take, if_pos (by omega)] at h5
          rw [List.getD_eq_getElem?_getD, h5]; rfl
        rw [hg, hp]; exact hi
      · exact h3 j (by omega) hj2
    · rintro ⟨h1, h2, h3⟩
      have hlt : pre.length < c.length := by omega
      obtain ⟨h4, h5⟩ := h3 pre.length (Nat.le_refl _) hlt
      rw [h1] at h5
      refine ⟨c.getD pre.length 0, ?_, (mem_rowsL0 set n _ c).2 ⟨?_, by simp; omega, fun j hj1 hj2 => h3 j (by simp at hj1; omega) hj2⟩⟩
      · rw [List.mem_filter, List.mem_range]; exact ⟨h4, h5⟩
      · rw [List.length_append, List.length_singleton, List.take_add_one, h1, List.getElem?_eq_getElem hlt]
        simp [List.getElem?_eq_getElem hlt]
structure RowOK (set : List Tile) (w : Nat) (c : List Nat) : Prop where
  len : c.length = w
  lt : ∀ x, x < w → c.getD x 0 < set.length
  adj : ∀ x, x + 1 < w → (tat set (c.getD x 0)).E = (tat set (c.getD (x + 1) 0)).W
theorem follows_take (set : List Tile) (c : List Nat) (j : Nat) (hj : j < c.length) (i : Nat) : follows set (c.take (j + 1)) i = ((tat set (c.getD j 0)).E == (tat set i).W) := by
  unfold follows
  have : (c.take (j + 1)).getLast? = some (c.getD j 0) := by
    have e : c.take (j + 1) = c.take j ++ [c[j]] := by rw [List.take_add_one, List.getElem?_eq_getElem hj]; rfl
    rw [e, List.getLast?_append]
    simp [List.getElem?_eq_getElem hj]
  rw [this]
theorem mem_rowsL (set : List Tile) (w : Nat) (c : List Nat) : c ∈ rowsL set w [] ↔ RowOK set w c := by
  rw [mem_rowsL0]
  constructor
  · rintro ⟨_, h2, h3⟩
    have hl : c.length = w := by simpa using h2
    refine ⟨hl, fun x hx => (h3 x (by simp) (by omega)).1, fun x hx => ?_⟩
    have := (h3 (x + 1) (by simp) (by omega)).2
    rw [follows_take set c x (by omega)] at this
    exact eq_of_beq this
  · rintro ⟨h1, h2, h3⟩
    refine ⟨by simp, by simp [h1], fun j _ hj => ⟨h2 j (by omega), ?_⟩⟩
    cases j with
    | zero => simp [follows]
    | succ j => rw [follows_take set c j (by omega), h3 j (by omega)]; simp
def sideN (set : List Tile) (c : List Nat) : List Int := c.map fun i => (tat set i).N
def sideS (set : List Tile) (c : List Nat) : List Int := c.map fun i => (tat set i).S
structure Fill (set : List Tile) (w h : Nat) (f : Nat → List Nat) : Prop where
  row : ∀ y, y < h → RowOK set w (f y)
  up : ∀ y, y + 1 < h → sideN set (f y) = sideS set (f (y + 1))
theorem canUp_iff (R : List Row) (al : Row → Nat → Bool) (h : Nat) : ∀ (n : Nat) (r : Row), n + 1 ≤ h → (canUp R al h n r = true ↔ ∃ g : Nat → Row, g 0 = r ∧ (∀ j, j ≤ n → al (g j) (h - 1 - n + j) = true) ∧ (∀ j, j < n → g (j + 1) ∈ R) ∧ ∀ j, j < n → (g (j + 1)).South = (g j).North)
  | 0, r, hn => by
    rw [canUp]
    constructor
    · intro h1; exact ⟨fun _ => r, rfl, fun j hj => by have : j = 0 := by omega
                                                       subst this; exact h1, fun j hj => by omega, fun j hj => by omega⟩
    · rintro ⟨g, rfl, h1, _, _⟩; exact h1 0 (Nat.le_refl _)
  | n + 1, r, hn => by
    rw [canUp, Bool.and_eq_true, List.any_eq_true]
    constructor
    · rintro ⟨h1, r', hr', h2⟩
      rw [Bool.and_eq_true, decide_eq_true_eq] at h2
      obtain ⟨g, rfl, g1, g2, g3⟩ := (canUp_iff R al h n r' (by omega)).1 h2.2
      refine ⟨fun j => if j = 0 then r else g (j - 1), rfl, fun j hj => ?_, fun j hj => ?_, fun j hj => ?_⟩
      · by_cases e : j = 0
        · subst e; simpa using h1
        · simp only [e, if_false]
          have := g1 (j - 1) (by omega)
          rwa [show h - 1 - n + (j - 1) = h - 1 - (n + 1) + j by omega] at this
      · simp only [Nat.add_sub_cancel, Nat.succ_ne_zero, if_false, Nat.add_eq_zero_iff, Nat.one_ne_zero, and_false]
        cases j with
        | zero => exact hr'
        | succ j => exact g2 j (by omega)
      · cases j with
        | zero => simpa using h2.1
        | succ j => simpa using g3 j (by omega)
    · rintro ⟨g, rfl, g1, g2, g3⟩
      refine ⟨by simpa using g1 0 (by omega), g 1, g2 0 (by omega), ?_⟩
      rw [Bool.and_eq_true, decide_eq_true_eq]
      refine ⟨g3 0 (by omega), (canUp_iff R al h n (g 1) (by omega)).2 ⟨fun j => g (j + 1), rfl, fun j hj => ?_, fun j hj => g2 (j + 1) (by omega), fun j hj => g3 (j + 1) (by omega)⟩⟩
      have := g1 (j + 1) (by omega)
      rwa [show h - 1 - (n + 1) + (j + 1) = h - 1 - n + j by omega] at this
theorem mem_allR (set : List Tile) (w : Nat) (r : Row) : r ∈ allR set w ↔ ∃ c, RowOK set w c ∧ r = mkR set c := by
  unfold allR
  rw [List.mem_map]
  constructor
  · rintro ⟨c, hc, rfl⟩; exact ⟨c, (mem_rowsL set w c).1 hc, rfl⟩
  · rintro ⟨c, hc, rfl⟩; exact ⟨c, (mem_rowsL set w c).2 hc, rfl⟩
theorem mkR_sides {set : List Tile} {w : Nat} (hw : w ≤ 8) {c d : List Nat} (hc : c.length = w) (hd : d.length = w) : (mkR set d).South = (mkR set c).North ↔ sideN set c = sideS set d := by
  show wordOf (sideS set d) = wordOf (sideN set c) ↔ _
  rw [wordOf_inj (by simp [sideS]; omega) (by simp [sideS, sideN]; omega)]
  exact eq_comm
theorem canUp_fill (set : List Tile) {w h : Nat} (hw : w ≤ 8) (hh : 1 ≤ h) (al : Row → Nat → Bool) : (∃ r ∈ allR set w, canUp (allR set w) al h (h - 1) r = true) ↔ ∃ f, Fill set w h f ∧ ∀ y, y < h → al (mkR set (f y)) y = true := by
  constructor
  · rintro ⟨r, hr, hc⟩
    obtain ⟨g, rfl, g1, g2, g3⟩ := (canUp_iff _ al h (h - 1) r (by omega)).1 hc
    have hg : ∀ y, y < h → g y ∈ allR set w := fun y hy => by
      cases y with
      | zero => exact hr
      | succ y => exact g2 y (by omega)
    have hex : ∀ y, ∃ c, y < h → RowOK set w c ∧ g y = mkR set c := fun y => by
      by_cases hy : y < h
      · obtain ⟨c, h1, h2⟩ := (mem_allR set w _).1 (hg y hy); exact ⟨c, fun _ => ⟨h1, h2⟩⟩
      · exact ⟨[], fun h => absurd h hy⟩
    obtain ⟨f, hf⟩ : ∃ f : Nat → List Nat, ∀ y, y < h → RowOK set w (f y) ∧ g y = mkR set (f y) := ⟨fun y => Classical.choose (hex y), fun y => Classical.choose_spec (hex y)⟩
    refine ⟨f, ⟨fun y hy => (hf y hy).1, fun y hy => ?_⟩, fun y hy => ?_⟩
    · have := g3 y (by omega)
      rw [(hf y (by omega)).2, (hf (y + 1) hy).2] at this
      exact (mkR_sides hw (hf y (by omega)).1.len (hf (y + 1) hy).1.len).1 this
    · have := g1 y (by omega)
      rw [(hf y hy).2] at this
      rwa [show h - 1 - (h - 1) + y = y by omega] at this
  · rintro ⟨f, hf, ha⟩
    refine ⟨mkR set (f 0), (mem_allR set w _).2 ⟨_, hf.row 0 (by omega), rfl⟩, (canUp_iff _ al h (h - 1) _ (by omega)).2 ⟨fun y => mkR set (f y), rfl, fun j hj => ?_, fun j hj => ?_, fun j hj => ?_⟩⟩
    · rw [show h - 1 - (h - 1) + j = j by omega]; exact ha j (by omega)
    · exact (mem_allR set w _).2 ⟨_, hf.row (j + 1) (by omega), rfl⟩
    · exact (mkR_sides hw (hf.row j (by omega)).len (hf.row (j + 1) (by omega)).len).2 (hf.up j (by omega))
end Gp
set_option linter.unusedVariables false
set_option linter.unusedSimpArgs false
namespace Gp
open Gw Gq
/-! ### squares -/
def e0 : Edges := Edges.mk ([] : List Int) ([] : List Int) ([] : List Int) ([] : List Int)
theorem e0_sides (w h : Int) : sidesB e0 w h = true := by simp [sidesB, e0]
theorem first_iff (set : List Tile) {w h : Nat} (e : Edges) (hw : w ≤ 8) (hh : 1 ≤ h) : (firstX set w h e).2 = 0 ↔ ∃ f, Fill set w h f ∧ ∀ y, y < h → alB e w h (mkR set (f y)) y = true := by
  rw [← canUp_fill set hw hh]
  unfold firstX
  obtain ⟨m, rfl⟩ : ∃ m, h = m + 1 := ⟨h - 1, by omega⟩
  have hn := greedy_none (allR set w) (alB e w (m + 1)) (m + 1) m
  cases hg : greedy (allR set w) (alB e w (m + 1)) (m + 1) (m + 1) none with
  | none =>
    simp only
    constructor
    · intro h; cases h
    · rintro ⟨r, hr, hc⟩
      have := hn.1 hg r hr
      rw [show m + 1 - 1 = m by omega] at hc
      rw [this] at hc; cases hc
  | some l =>
    simp only [true_iff]
    apply Classical.byContradiction
    intro hno
    have : greedy (allR set w) (alB e w (m + 1)) (m + 1) (m + 1) none = none := hn.2 (fun r hr => by
      cases hc : canUp (allR set w) (alB e w (m + 1)) (m + 1) m r
      · rfl
      · exact absurd ⟨r, hr, hc⟩ hno)
    rw [this] at hg; cases hg
end Gp
set_option linter.unusedVariables false
set_option linter.unusedSimpArgs false
namespace Gp
open Gw Gq
theorem power_l0 (b n : Nat) (hb : b ≤ 1000000) (hn : n ≤ 1000) : ∀ (d i k : Nat), i + d = n → d < k → ref02_Power.l0 k (min (b ^ i) 1000000 : Nat) i b n = some ((min (b ^ n) 1000000 : Nat) : Int)
  | 0, i, k, e, hk => by
    obtain ⟨k, rfl⟩ : ∃ m, k = m + 1 := ⟨k - 1, by omega⟩
    have : i = n := by omega
    subst this
    rw [ref02_Power.l0, if_neg (by simp)]
  | d + 1, i, k, e, hk => by
    obtain ⟨k, rfl⟩ : ∃ m, k = m + 1 := ⟨k - 1, by omega⟩
    have ih := power_l0 b n hb hn d (i + 1) k (by omega) (by omega)
    have hwi : w64 ((i : Int) + 1) = ((i + 1 : Nat) : Int) := by rw [w64_id (by omega) (by omega)]; rfl
    have hm : (min (b ^ i) 1000000) * b ≤ 1000000 * 1000000 := Nat.mul_le_mul (Nat.min_le_right _ _) hb
    have hmul : ((min (b ^ i) 1000000 : Nat) : Int) * (b : Int) = (((min (b ^ i) 1000000) * b : Nat) : Int) := (Int.natCast_mul _ _).symm
    have key : min (min (b ^ i) 1000000 * b) 1000000 = min (b ^ (i + 1)) 1000000 := by
      rw [Nat.pow_succ]
      by_cases hx : b ^ i ≤ 1000000
      · rw [Nat.min_eq_left hx]
      · rw [Nat.min_eq_right (by omega : 1000000 ≤ b ^ i)]
        have h0 : 0 < b := by
          rcases Nat.eq_zero_or_pos b with h0 | h0
          · exfalso; subst h0
            have := Nat.pow_le_pow_left (by omega : 0 ≤ 1) i
            rw [Nat.one_pow] at this; omega
          · exact h0
        have a1 : 1000000 ≤ 1000000 * b := Nat.le_mul_of_pos_right _ h0
        have a2 : b ^ i ≤ b ^ i * b := Nat.le_mul_of_pos_right _ h0
        rw [Nat.min_eq_right a1, Nat.min_eq_right (by omega)]
    obtain ⟨M, hM⟩ : ∃ M, min (b ^ i) 1000000 * b = M := ⟨_, rfl⟩
    rw [hM] at hm hmul key
    have hmin : minI (M : Int) 1000000 = ((min (b ^ (i + 1)) 1000000 : Nat) : Int) := by
      rw [← key]; unfold minI; split <;> omega
    rw [ref02_Power.l0, if_pos (by simp; omega), hmul, w64_id (n := (M : Int)) (by omega) (by omega), hmin, hwi]
    exact ih
theorem power_eq (b n : Nat) (hb : b ≤ 1000000) (hn : n ≤ 1000) {k : Nat} (hk : n < k) : ref02_Power k b n = some ((min (b ^ n) 1000000 : Nat) : Int) := by
  have := power_l0 b n hb hn n 0 k (by omega) hk
  rw [Nat.pow_zero] at this
  have this : ref02_Power.l0 k 1 0 b n = _ := this
  unfold ref02_Power
  rw [this]; rfl
theorem great_eq (s : List Tile) (hl : s.length ≤ 1000) {w : Nat} (hw : 1 ≤ w ∧ w ≤ 60) {k : Nat} (hk : 1000 < k) : ref02_Great k s w = some (!fewB s.length w) := by
  unfold ref02_Great
  rw [power_eq s.length w (by omega) (by omega) (by omega), Option.bind_some]
  congr 1
  unfold fewB
  by_cases h : (max s.length 1) ^ w ≤ 5000
  · rw [decide_eq_true h]
    have : s.length ^ w ≤ (max s.length 1) ^ w := Nat.pow_le_pow_left (by omega) w
    exact decide_eq_false (by omega)
  · rw [decide_eq_false h]
    have : s.length ^ w = (max s.length 1) ^ w := by
      rcases Nat.eq_zero_or_pos s.length with h0 | h0
      · exfalso; rw [h0] at h; exact h (by simp)
      · rw [show max s.length 1 = s.length by omega]
    exact decide_eq_true (by omega)
end Gp
set_option linter.unusedVariables false
set_option linter.unusedSimpArgs false
namespace Gp
open Gw Gq
theorem awake04_ok (k : Nat) : law04_awake (k + 1300) = some true := by kernel_rfl
/-! numbers of pairs -/
end Gp
set_option linter.unusedVariables false
set_option linter.unusedSimpArgs false
namespace Gp
open Gw Gq
end Gp
set_option linter.unusedVariables false
set_option linter.unusedSimpArgs false
namespace Gp
open Gw Gq
/-! the reference -/
end Gp
set_option linter.unusedVariables false
set_option linter.unusedSimpArgs false
namespace Gp
open Gw Gq
end Gp
set_option linter.unusedVariables false
set_option linter.unusedSimpArgs false
set_option maxRecDepth 4000
namespace Gp
open Gw Gq
theorem u64_id {n : Nat} (h : n < 18446744073709551616) : Go.IntKind.u64.wrap (n : Int) = n := by
  simp [Go.IntKind.wrap, Go.IntKind.bits, Go.IntKind.signed]; omega
theorem bv_of {n : Nat} : (BitVec.ofInt 64 (n : Int)).toNat = n % 18446744073709551616 := by
  rw [BitVec.toNat_ofInt]
  show ((n : Int) % ((2 ^ 64 : Nat) : Int)).toNat = _
  have : ((2 ^ 64 : Nat) : Int) = 18446744073709551616 := by decide
  rw [this]; omega
theorem shl1 {x : Nat} (h : x < 64) : shlV 1 (x : Int) = ((2 ^ x : Nat) : Int) := by
  unfold shlV
  rw [Int.toNat_natCast, Int.one_mul]
  have hp : (2 : Nat) ^ x < 18446744073709551616 := by
    have := Nat.pow_lt_pow_right (a := 2) (by omega) h
    exact this
  have : ((2 : Int) ^ x) = ((2 ^ x : Nat) : Int) := by simp
  rw [this, u64_id hp]
theorem orN {a b : Nat} (ha : a < 18446744073709551616) (hb : b < 18446744073709551616) : orV (a : Int) (b : Int) = ((a ||| b : Nat) : Int) ∧ a ||| b < 18446744073709551616 := by
  have hlt : a ||| b < 18446744073709551616 := Nat.or_lt_two_pow (n := 64) ha hb
  refine ⟨?_, hlt⟩
  unfold orV
  rw [BitVec.toNat_or, bv_of, bv_of, Nat.mod_eq_of_lt ha, Nat.mod_eq_of_lt hb, u64_id hlt]
theorem hasN {a x : Nat} (ha : a < 18446744073709551616) (hx : x < 64) : (andV (shrV (a : Int) (x : Int)) 1 == 1) = a.testBit x := by
  have hs : shrV (a : Int) (x : Int) = ((a / 2 ^ x : Nat) : Int) := by
    unfold shrV
    rw [Int.toNat_natCast, Int.fdiv_eq_ediv_of_nonneg _ (by exact Int.le_of_lt (Int.pow_pos (by decide)))]
    simp
  have hd : a / 2 ^ x < 18446744073709551616 := Nat.lt_of_le_of_lt (Nat.div_le_self _ _) ha
  have e1 : (BitVec.ofInt 64 (1 : Int)).toNat = 1 := by decide
  have e2 : andV (shrV (a : Int) (x : Int)) 1 = ((a / 2 ^ x % 2 : Nat) : Int) := by
    unfold andV
    rw [hs, BitVec.toNat_and, bv_of, e1, Nat.mod_eq_of_lt hd, Nat.and_one_is_mod, u64_id (Nat.lt_of_lt_of_le (Nat.mod_lt _ (by omega)) (by omega))]
  rw [e2, Nat.testBit_eq_decide_div_mod_eq, Bool.eq_iff_iff]
  generalize a / 2 ^ x % 2 = m
  simp only [beq_iff_eq, decide_eq_true_eq]
  omega
def wdsA (c : A16_Int) : List Int := [c.e0, c.e1, c.e2, c.e3, c.e4, c.e5, c.e6, c.e7, c.e8, c.e9, c.e10, c.e11, c.e12, c.e13, c.e14, c.e15]
theorem wds_set (c : A16_Int) {i : Int} (hi : 0 ≤ i ∧ i < 16) (v : Int) : wdsA (A16_Int.set c i v) = (wdsA c).set i.toNat v := cases16 (Q := fun z => wdsA (A16_Int.set c z v) = (wdsA c).set z.toNat v) hi rfl rfl rfl rfl rfl rfl rfl rfl rfl rfl rfl rfl rfl rfl rfl rfl
theorem get_wds (c : A16_Int) (i : Int) : A16_Int.get c i = getI (wdsA c) i := rfl
def okC (c : A16_Int) : Prop := ∀ i : Nat, i < 16 → ∃ n : Nat, getI (wdsA c) (i : Int) = n ∧ n < 18446744073709551616
def hasC (c : A16_Int) (x : Nat) : Bool := (getI (wdsA c) ((x / 64 : Nat) : Int)).toNat.testBit (x % 64)
theorem divmod {x : Nat} (hx : x < 1000) : w64 (Int.tdiv (x : Int) 64) = ((x / 64 : Nat) : Int) ∧ Int.tmod (x : Int) 64 = ((x % 64 : Nat) : Int) := by
  have h1 : Int.tdiv (x : Int) 64 = ((x / 64 : Nat) : Int) := rfl
  have h2 : Int.tmod (x : Int) 64 = ((x % 64 : Nat) : Int) := rfl
  exact ⟨by rw [h1, w64_id (by omega) (by omega)], h2⟩
theorem has_eq {c : A16_Int} (hc : okC c) {x : Nat} (hx : x < 1000) : strip_colours_has c (x : Int) = some (hasC c x) := by
  obtain ⟨e1, e2⟩ := divmod hx
  obtain ⟨n, en, hn⟩ := hc (x / 64) (by omega)
  unfold strip_colours_has hasC
  rw [e1, e2, if_pos (by omega), if_pos (by omega), get_wds, en, hasN hn (by omega), Int.toNat_natCast]
theorem put_eqL {c : A16_Int} (hc : okC c) {x : Nat} (hx : x < 1000) : ∃ c', strip_colours_put c (x : Int) = some c' ∧ okC c' ∧ ∀ y, y < 1024 → hasC c' y = (hasC c y || decide (y = x)) := by
  obtain ⟨e1, e2⟩ := divmod hx
  obtain ⟨n, en, hn⟩ := hc (x / 64) (by omega)
  have hp : 2 ^ (x % 64) < 18446744073709551616 := Nat.pow_lt_pow_right (a := 2) (by omega) (show x % 64 < 64 by omega)
  obtain ⟨o1, o2⟩ := orN hn hp
  unfold strip_colours_put
  rw [e1, e2, if_pos (by omega), if_pos (by omega), get_wds, en, shl1 (by omega), o1]
  have hg : ∀ i : Nat, i < 16 → getI (wdsA (A16_Int.set c ((x / 64 : Nat) : Int) ((n ||| 2 ^ (x % 64) : Nat) : Int))) (i : Int) = if i = x / 64 then ((n ||| 2 ^ (x % 64) : Nat) : Int) else getI (wdsA c) (i : Int) := fun i hi => by
    rw [wds_set c (by omega)]
    unfold getI
    rw [Int.toNat_natCast, Int.toNat_natCast, List.getD_eq_getElem?_getD, List.getElem?_set]
    by_cases h : x / 64 = i
    · rw [if_pos h, if_pos h.symm, if_pos (by simp [wdsA]; omega)]; rfl
    · rw [if_neg h, if_neg (fun e => h e.symm), List.getD_eq_getElem?_getD]
  refine ⟨_, rfl, fun i hi => ?_, fun y hy => ?_⟩
  · rw [hg i hi]
    split
    · exact ⟨_, rfl, o2⟩
    · exact hc i hi
  · unfold hasC
    rw [hg (y / 64) (by omega)]
    by_cases h : y / 64 = x / 64
    · rw [if_pos h, h, en, Int.toNat_natCast, Int.toNat_natCast, Nat.testBit_or, Nat.testBit_two_pow]
      congr 1
      rw [Bool.eq_iff_iff]; simp; omega
    · rw [if_neg h]
      have : decide (y = x) = false := decide_eq_false fun e => h (by rw [e])
      rw [this, Bool.or_false]
theorem put_eq {c : A16_Int} (hc : okC c) {x : Nat} (hx : x < 1000) : ∃ c', strip_colours_put c (x : Int) = some c' ∧ okC c' ∧ ∀ y, y < 1000 → hasC c' y = (hasC c y || decide (y = x)) := by
  obtain ⟨c', h1, h2, h3⟩ := put_eqL hc hx
  exact ⟨c', h1, h2, fun y hy => h3 y (by omega)⟩
def zC : A16_Int := ⟨0, 0, 0, 0, 0, 0, 0, 0, 0, 0, 0, 0, 0, 0, 0, 0⟩
theorem okC_z : okC zC := fun i hi => ⟨0, by
  have : ∀ j : Fin 16, getI (wdsA zC) ((j : Nat) : Int) = ((0 : Nat) : Int) := by decide
  exact this ⟨i, hi⟩, by omega⟩
theorem hasC_zL {x : Nat} (hx : x < 1024) : hasC zC x = false := by
  have : ∀ j : Fin 16, getI (wdsA zC) ((j : Nat) : Int) = 0 := by decide
  have := this ⟨x / 64, by omega⟩
  unfold hasC
  rw [this]; simp
theorem hasC_z {x : Nat} (hx : x < 1000) : hasC zC x = false := hasC_zL (by omega)
end Gp
set_option linter.unusedVariables false
set_option linter.unusedSimpArgs false
namespace Gp
open Gw Gq
theorem has_el_eq (l : List A16_Int) {i : Nat} (hi : i < l.length) (x : Int) : strip_colours_has_el l (i : Int) x = strip_colours_has l[i] x := by
  unfold strip_colours_has_el strip_colours_has
  rw [if_pos (show 0 ≤ (i : Int) ∧ (i : Int) < (l.length : Int) by omega), rdD_get hi]
theorem put_el_eq (l : List A16_Int) {i : Nat} (hi : i < l.length) (x : Int) {c : A16_Int} (h : strip_colours_put l[i] x = some c) : strip_colours_put_el l (i : Int) x = some (l.set i c) := by
  unfold strip_colours_put at h
  unfold strip_colours_put_el
  rw [if_pos (show 0 ≤ (i : Int) ∧ (i : Int) < (l.length : Int) by omega), rdD_get hi, Int.toNat_natCast]
  split at h
  · rename_i h1
    split at h
    · rename_i h2
      injection h with h
      rw [if_pos h1, if_pos h2, h]
    · cases h
  · cases h
def leadR (s : List Tile) (to : Int) : Nat → Int → Bool
  | 0, y => decide (y = to)
  | k + 1, y => s.any fun t => decide (t.W = y) && leadR s to k t.E
def colB4 (s : List Tile) : Prop := ∀ t ∈ s, (0 ≤ t.N ∧ t.N < 1000) ∧ (0 ≤ t.E ∧ t.E < 1000) ∧ (0 ≤ t.S ∧ t.S < 1000) ∧ (0 ≤ t.W ∧ t.W < 1000)
structure CanI (s : List Tile) (to : Int) (n K : Nat) (l : List A16_Int) : Prop where
  len : l.length = n + 1
  ok : ∀ (i : Nat) (h : i < l.length), okC l[i]
  lo : ∀ (i : Nat) (h : i < l.length), i < K → ∀ y : Nat, y < 1000 → hasC l[i] y = leadR s to i (y : Int)
  hi : ∀ (i : Nat) (h : i < l.length), K < i → ∀ y : Nat, y < 1000 → hasC l[i] y = false
theorem path_l1 {s : List Tile} (hs : colB4 s) (hls : s.length ≤ 1000) {to : Int} {n K : Nat} (hK : 1 ≤ K ∧ K ≤ n) (hn : n ≤ 40000) : ∀ (d x k : Nat) (l : List A16_Int), x + d = s.length → d < k → CanI s to n K l →
    (∀ y : Nat, y < 1000 → ∀ h : K < l.length, hasC l[K] y = (s.take x).any fun t => decide (t.W = (y : Int)) && leadR s to (K - 1) t.E) → ∃ l', strip_Path.l1 k l x s K = some l' ∧ CanI s to n (K + 1) l' ∧ ∀ (h : K + 1 < l'.length) (y : Nat), y < 1000 → hasC l'[K + 1] y = false
  | 0, x, k, l, e, hk, h, hx => by
    obtain ⟨k, rfl⟩ : ∃ m, k = m + 1 := ⟨k - 1, by omega⟩
    refine ⟨l, by rw [strip_Path.l1, if_neg (by simp; omega)], ⟨h.len, h.ok, fun i hi hiK y hy => ?_, fun i hi hiK => h.hi i hi (by omega)⟩, fun hh y hy => h.hi (K + 1) hh (by omega) y hy⟩
    rcases Nat.lt_or_ge i K with h1 | h1
    · exact h.lo i hi h1 y hy
    · have : i = K := by omega
      subst this
      rw [hx y hy hi, List.take_of_length_le (by omega)]
      obtain ⟨m, rfl⟩ : ∃ m, i = m + 1 := ⟨i - 1, by omega⟩
      rfl
  | d + 1, x, k, l, e, hk, h, hx => by
    obtain ⟨k, rfl⟩ : ∃ m, k = m + 1 := ⟨k - 1, by omega⟩
    have hlt : x < s.length := by omega
    have hlen := h.len
    have hwi : w64 ((x : Int) + 1) = ((x + 1 : Nat) : Int) := by rw [w64_id (by omega) (by omega)]; rfl
    have hwk : w64 ((K : Int) - 1) = ((K - 1 : Nat) : Int) := by rw [w64_id (by omega) (by omega)]; omega
    have hk1 : K - 1 < l.length := by omega
    have hkl : K < l.length := by omega
    obtain ⟨-, ⟨hE0, hE1⟩, -, ⟨hW0, hW1⟩⟩ := hs s[x] (List.getElem_mem hlt)
    obtain ⟨eE, heE⟩ : ∃ m : Nat, s[x].E = m := ⟨s[x].E.toNat, by omega⟩
    obtain ⟨wW, hwW⟩ : ∃ m : Nat, s[x].W = m := ⟨s[x].W.toNat, by omega⟩
    have hhas : strip_colours_has_el l ((K - 1 : Nat) : Int) s[x].E = some (leadR s to (K - 1) s[x].E) := by
      rw [has_el_eq l hk1, heE, has_eq (h.ok _ hk1) (by omega), h.lo _ hk1 (by omega) eE (by omega)]
    have htake : ∀ (f : Tile → Bool), (s.take (x + 1)).any f = ((s.take x).any f || f s[x]) := fun f => by
      rw [List.take_succ_eq_append_getElem hlt, List.any_append]; simp
    rw [strip_Path.l1, if_pos (by simpa using hlt), if_pos (show 0 ≤ (x : Int) ∧ (x : Int) < (s.length : Int) by omega), hwk, if_pos (show 0 ≤ ((K - 1 : Nat) : Int) ∧ ((K - 1 : Nat) : Int) < (l.length : Int) by omega), rdD_get hlt, hhas, Option.bind_some, hwi]
    cases hb : leadR s to (K - 1) s[x].E
    · rw [if_neg (by simp), Option.bind_some]
      exact path_l1 hs hls hK hn d (x + 1) k l (by omega) (by omega) h fun y hy hh => by rw [htake, hx y hy hh, hb]; simp
    · obtain ⟨c, hc1, hc2, hc3⟩ := put_eq (h.ok K hkl) (x := wW) (by omega)
      rw [if_pos rfl, if_pos (show 0 ≤ (K : Int) ∧ (K : Int) < (l.length : Int) by omega), hwW, put_el_eq l hkl _ hc1, Option.bind_some, Option.bind_some]
      refine path_l1 hs hls hK hn d (x + 1) k _ (by omega) (by omega) ⟨by simp [hlen], fun i hi => ?_, fun i hi hiK y hy => ?_, fun i hi hiK y hy => ?_⟩ fun y hy hh => ?_
      · rw [List.getElem_set]; split
        · exact hc2
        · exact h.ok i _
      · rw [List.getElem_set_ne (by omega)]; exact h.lo i _ hiK y hy
      · rw [List.getElem_set_ne (by omega)]; exact h.hi i _ hiK y hy
      · rw [List.getElem_set_self, hc3 y hy, htake, hx y hy hkl, hb, hwW]
        congr 1
        rw [Bool.and_true, Bool.eq_iff_iff]; simp; omega
theorem path_l0 {s : List Tile} (hs : colB4 s) (hls : s.length ≤ 1000) {to : Int} {n : Nat} (hn : n ≤ 40000) : ∀ (d K k : Nat) (l : List A16_Int), K + d = n + 1 → 1 ≤ K → d + 1001 < k → CanI s to n K l → (∀ (h : K < l.length) (y : Nat), y < 1000 → hasC l[K] y = false) → ∃ l', strip_Path.l0 k l K s n = some l' ∧ CanI s to n (n + 1) l'
  | 0, K, k, l, e, h1, hk, h, hz => by
    obtain ⟨k, rfl⟩ : ∃ m, k = m + 1 := ⟨k - 1, by omega⟩
    refine ⟨l, by rw [strip_Path.l0, if_neg (by simp; omega)], ?_⟩
    rwa [show K = n + 1 by omega] at h
  | d + 1, K, k, l, e, h1, hk, h, hz => by
    obtain ⟨k, rfl⟩ : ∃ m, k = m + 1 := ⟨k - 1, by omega⟩
    have hlen := h.len
    have hwi : w64 ((K : Int) + 1) = ((K + 1 : Nat) : Int) := by rw [w64_id (by omega) (by omega)]; rfl
    obtain ⟨l', e1, h', hz'⟩ := path_l1 hs hls (K := K) ⟨h1, by omega⟩ hn s.length 0 k l (by omega) (by omega) h (fun y hy hh => by rw [hz hh y hy]; simp)
    have e1 : strip_Path.l1 k l 0 s K = some l' := e1
    rw [strip_Path.l0, if_pos (by simp; omega), e1, Option.bind_some, hwi]
    exact path_l0 hs hls hn d (K + 1) k l' (by omega) (by omega) (by omega) h' hz'
def walkC (s : List Tile) (to : Int) : Nat → Int → List Int
  | 0, _ => []
  | m + 1, at_ => match s.findIdx? fun t => decide (t.W = at_) && leadR s to m t.E with
    | none => walkC s to m at_
    | some i => (i : Int) :: walkC s to m (rdD s (i : Int) z_Tile).E
theorem path_l3 {s : List Tile} (hs : colB4 s) (hls : s.length ≤ 1000) {to : Int} {n : Nat} {l : List A16_Int} (h : CanI s to n (n + 1) l) (cells : List Int) (hc : cells.length ≤ 100000) (at_ : Int) {m : Nat} (hm : m ≤ n) (hn : n ≤ 40000) : ∀ (d x k : Nat), x + d = s.length → d < k →
    strip_Path.l3 k x s l cells at_ m = some (match (s.drop x).findIdx? (fun t => decide (t.W = at_) && leadR s to m t.E) with
      | none => (cells, at_)
      | some i => (cells ++ [((x + i : Nat) : Int)], (rdD s ((x + i : Nat) : Int) z_Tile).E))
  | 0, x, k, e, hk => by
    obtain ⟨k, rfl⟩ : ∃ m, k = m + 1 := ⟨k - 1, by omega⟩
    rw [strip_Path.l3, if_neg (by simp; omega), List.drop_of_length_le (by omega)]; rfl
  | d + 1, x, k, e, hk => by
    obtain ⟨k, rfl⟩ : ∃ m, k = m + 1 := ⟨k - 1, by omega⟩
    have hlt : x < s.length := by omega
    have hlen := h.len
    have hwi : w64 ((x : Int) + 1) = ((x + 1 : Nat) : Int) := by rw [w64_id (by omega) (by omega)]; rfl
    obtain ⟨-, ⟨hE0, hE1⟩, -, -⟩ := hs s[x] (List.getElem_mem hlt)
    obtain ⟨eE, heE⟩ : ∃ m : Nat, s[x].E = m := ⟨s[x].E.toNat, by omega⟩
    have hml : m < l.length := by omega
    have hhas : strip_colours_has_el l (m : Int) s[x].E = some (leadR s to m s[x].E) := by
      rw [has_el_eq l hml, heE, has_eq (h.ok _ hml) (by omega), h.lo _ hml (by omega) eE (by omega)]
    rw [strip_Path.l3, if_pos (by simpa using hlt), if_pos (show 0 ≤ (x : Int) ∧ (x : Int) < (s.length : Int) by omega), if_pos (show 0 ≤ (m : Int) ∧ (m : Int) < (l.length : Int) by omega), rdD_get hlt, hhas, Option.bind_some, hwi, List.drop_eq_getElem_cons hlt, List.findIdx?_cons]
    have e1 : (if (s[x].W == at_) = true then some (leadR s to m s[x].E) else some false) = some (decide (s[x].W = at_) && leadR s to m s[x].E) := by
      by_cases hw : s[x].W = at_
      · rw [if_pos (by simpa using hw), decide_eq_true hw]; rfl
      · rw [if_neg (by simpa using hw), decide_eq_false hw]; rfl
    rw [e1, Option.bind_some]
    cases hb : decide (s[x].W = at_) && leadR s to m s[x].E
    · rw [if_neg (by simp), path_l3 hs hls h cells hc at_ hm hn d (x + 1) k (by omega) (by omega)]
      simp only [Bool.false_eq_true, if_false]
      cases hf : (s.drop (x + 1)).findIdx? (fun t => decide (t.W = at_) && leadR s to m t.E) with
      | none => simp
      | some i => simp [Nat.add_assoc, Nat.add_comm 1 i]
    · rw [if_pos rfl, if_pos (by simp; omega)]
      simp [rdD_get hlt]
theorem path_l2 {s : List Tile} (hs : colB4 s) (hls : s.length ≤ 1000) {to : Int} {n : Nat} {l : List A16_Int} (h : CanI s to n (n + 1) l) (hn : n ≤ 40000) : ∀ (m k : Nat) (cells : List Int) (at_ : Int), m ≤ n + 1 → m + 1001 < k → cells.length + m ≤ 100000 →
    strip_Path.l2 k cells at_ ((m : Int) - 1) s l = some (cells ++ walkC s to m at_)
  | 0, k, cells, at_, hm, hk, hc => by
    obtain ⟨k, rfl⟩ : ∃ m, k = m + 1 := ⟨k - 1, by omega⟩
    rw [strip_Path.l2, if_neg (by simp)]; simp [walkC]
  | m + 1, k, cells, at_, hm, hk, hc => by
    obtain ⟨k, rfl⟩ : ∃ m, k = m + 1 := ⟨k - 1, by omega⟩
    have e0 : ((m + 1 : Nat) : Int) - 1 = (m : Int) := by omega
    have hwi : w64 ((m : Int) - 1) = (m : Int) - 1 := w64_id (by omega) (by omega)
    have l3 := path_l3 hs hls h cells (by omega) at_ (m := m) (by omega) hn s.length 0 k (by omega) (by omega)
    have l3 : strip_Path.l3 k 0 s l cells at_ m = _ := l3
    rw [e0, strip_Path.l2, if_pos (by simp), l3, Option.bind_some, hwi, List.drop_zero, walkC]
    cases hf : s.findIdx? (fun t => decide (t.W = at_) && leadR s to m t.E) with
    | none => exact path_l2 hs hls h hn m k cells at_ (by omega) (by omega) (by omega)
    | some i =>
      simp only [Nat.zero_add]
      rw [path_l2 hs hls h hn m k _ _ (by omega) (by omega) (by simp; omega)]
      simp
end Gp
set_option linter.unusedVariables false
set_option linter.unusedSimpArgs false
namespace Gp
open Gw Gq
theorem leadR_rng {s : List Tile} (hs : colB4 s) {to : Int} : ∀ {k : Nat} {y : Int}, leadR s to (k + 1) y = true → (0 ≤ y ∧ y < 1000) ∧ (0 ≤ to ∧ to < 1000)
  | 0, y, h => by
    unfold leadR at h
    rw [List.any_eq_true] at h
    obtain ⟨t, ht, h2⟩ := h
    rw [Bool.and_eq_true] at h2
    obtain ⟨-, h5, -, h6⟩ := hs t ht
    have h7 := of_decide_eq_true h2.1
    have h8 := of_decide_eq_true (show decide (t.E = to) = true from h2.2)
    omega
  | k + 1, y, h => by
    unfold leadR at h
    rw [List.any_eq_true] at h
    obtain ⟨t, ht, h2⟩ := h
    rw [Bool.and_eq_true] at h2
    obtain ⟨-, -, -, h6⟩ := hs t ht
    have h7 := of_decide_eq_true h2.1
    have h8 := (leadR_rng hs h2.2).2
    omega
theorem validT_iff4 (s : List Tile) : validT s = true ↔ s.length ≤ 1000 ∧ s.Nodup ∧ ∀ t ∈ s, colB t = true := by
  unfold validT
  simp only [Bool.and_eq_true, decide_eq_true_eq, List.all_eq_true, List.mem_range]
  have hg : ∀ i (h : i < s.length), s.getD i z_Tile = s[i] := fun i h => by simp [List.getElem?_eq_getElem h]
  refine and_congr_right fun _ => ⟨fun h => ⟨?_, fun t ht => ?_⟩, fun h i hi => ?_⟩
  · rw [List.Nodup, List.pairwise_iff_getElem]
    intro i j hi hj hij he
    have := h j hj
    unfold newB at this
    rw [hg j hj, Bool.and_eq_true, Bool.not_eq_true', decide_eq_false_iff_not] at this
    exact this.1 (by rw [← he]; exact List.mem_take_iff_getElem.2 ⟨i, by omega, rfl⟩)
  · obtain ⟨i, hi, rfl⟩ := List.getElem_of_mem ht
    have := h i hi
    unfold newB at this
    rw [hg i hi, Bool.and_eq_true] at this
    exact this.2
  · unfold newB
    rw [hg i hi, h.2 _ (List.getElem_mem hi), Bool.and_true, Bool.not_eq_true', decide_eq_false_iff_not]
    intro hm
    obtain ⟨j, hj, he⟩ := List.mem_take_iff_getElem.1 hm
    have := h.1
    rw [List.Nodup, List.pairwise_iff_getElem] at this
    exact this j i (by omega) hi (by omega) he
theorem colB4_of {s : List Tile} (hv : validT s = true) : colB4 s := by
  have := ((validT_iff4 s).1 hv).2.2
  intro t ht
  have := this t ht
  unfold colB inCol at this
  simp only [Bool.and_eq_true, decide_eq_true_eq] at this
  omega
theorem path_eq {s : List Tile} (hv : validT s = true) (from_ to : Int) {n : Nat} (hn : 1 ≤ n ∧ n ≤ 40000) {k : Nat} (hk : 50000 < k) : strip_Path k s from_ to n = some (if leadR s to n from_ = true then (walkC s to n from_, 0) else ([], 6)) := by
  have hl := valid_len hv
  have hs := colB4_of hv
  unfold strip_Path
  rw [tile_valid s (by omega) (by omega), Option.bind_some, hv, if_neg (by decide), if_neg (by simp; omega)]
  by_cases hr : (0 ≤ from_ ∧ from_ < 1000) ∧ (0 ≤ to ∧ to < 1000)
  rotate_left
  · have hf : leadR s to n from_ = false := by
      cases hb : leadR s to n from_
      · rfl
      · obtain ⟨m, rfl⟩ : ∃ m, n = m + 1 := ⟨n - 1, by omega⟩
        exact absurd (leadR_rng hs hb) hr
    rw [if_pos (by unfold minI maxI; simp; split <;> split <;> omega), hf, if_neg (by simp)]
  obtain ⟨f, rfl⟩ : ∃ f : Nat, from_ = f := ⟨from_.toNat, by omega⟩
  obtain ⟨t, rfl⟩ : ∃ t : Nat, to = t := ⟨to.toNat, by omega⟩
  have hwn : w64 ((n : Int) + 1) = ((n + 1 : Nat) : Int) := by rw [w64_id (by omega) (by omega)]; rfl
  have hwm : w64 ((n : Int) - 1) = (n : Int) - 1 := w64_id (by omega) (by omega)
  have hz0 : ∀ (i : Nat) (h : i < (List.replicate (n + 1) z_A16_Int).length), (List.replicate (n + 1) z_A16_Int)[i] = zC := fun i h => by rw [List.getElem_replicate]; rfl
  have h0l : 0 < (List.replicate (n + 1) z_A16_Int).length := by simp
  obtain ⟨c, hc1, hc2, hc3⟩ := put_eq okC_z (x := t) (by omega)
  have hput : strip_colours_put_el (List.replicate (n + 1) z_A16_Int) (0 : Int) (t : Int) = some ((List.replicate (n + 1) z_A16_Int).set 0 c) := put_el_eq _ h0l _ (by rw [hz0 0 h0l]; exact hc1)
  have hI : CanI s t n 1 ((List.replicate (n + 1) z_A16_Int).set 0 c) := by
    refine ⟨by simp, fun i hi => ?_, fun i hi hi1 y hy => ?_, fun i hi hi1 y hy => ?_⟩
    · rw [List.getElem_set]; split
      · exact hc2
      · rw [hz0 i _]; exact okC_z
    · have : i = 0 := by omega
      subst this
      rw [List.getElem_set_self, hc3 y hy, hasC_z hy, Bool.false_or]
      unfold leadR
      rw [Bool.eq_iff_iff]; simp; omega
    · rw [List.getElem_set_ne (by omega), hz0 i _, hasC_z hy]
  obtain ⟨l, e1, hL⟩ := path_l0 hs hl (n := n) (by omega) n 1 k _ (by omega) (by omega) (by omega) hI (fun h y hy => by rw [List.getElem_set_ne (by omega), hz0 1 _, hasC_z hy])
  have e1 : strip_Path.l0 k ((List.replicate (n + 1) z_A16_Int).set 0 c) 1 s n = some l := e1
  have hlen := hL.len
  have hhas : strip_colours_has_el l (n : Int) (f : Int) = some (leadR s t n f) := by
    rw [has_el_eq l (by omega), has_eq (hL.ok _ (by omega)) (by omega), hL.lo n (by omega) (by omega) f (by omega)]
  rw [if_neg (by unfold minI maxI; simp; split <;> split <;> omega), hwn, if_pos (by omega), Int.toNat_natCast, if_pos (show 0 ≤ (0 : Int) ∧ (0 : Int) < ((List.replicate (n + 1) z_A16_Int).length : Int) by rw [List.length_replicate]; omega), hput, Option.bind_some, e1, Option.bind_some, if_pos (show 0 ≤ (n : Int) ∧ (n : Int) < (l.length : Int) by omega), hhas, Option.bind_some, hwm]
  cases hb : leadR s t n f
  · rw [if_pos (by decide), if_neg (by simp)]
  · rw [if_neg (by decide), if_pos rfl, path_l2 hs hl hL (by omega) n k [] f (by omega) (by omega) (by simp; omega)]; rfl
end Gp
set_option linter.unusedVariables false
set_option linter.unusedSimpArgs false
namespace Gp
open Gw Gq
end Gp
set_option linter.unusedVariables false
set_option linter.unusedSimpArgs false
namespace Gp
open Gw Gq
end Gp
set_option linter.unusedVariables false
set_option linter.unusedSimpArgs false
namespace Gp
open Gw Gq
end Gp
set_option linter.unusedVariables false
set_option linter.unusedSimpArgs false
namespace Gp
open Gw Gq
end Gp
set_option linter.unusedVariables false
set_option linter.unusedSimpArgs false
namespace Gp
open Gw Gq
end Gp
set_option linter.unusedVariables false
set_option linter.unusedSimpArgs false
namespace Gp
open Gw Gq
end Gp
set_option linter.unusedVariables false
set_option linter.unusedSimpArgs false
namespace Gp
open Gw Gq
end Gp
set_option linter.unusedVariables false
set_option linter.unusedSimpArgs false
namespace Gp
open Gw Gq
theorem any_cong {α : Type} {f g : α → Bool} : ∀ {l : List α}, (∀ x ∈ l, f x = g x) → l.any f = l.any g
  | [], _ => rfl
  | a :: l, h => by rw [List.any_cons, List.any_cons, h a (by simp), any_cong fun x hx => h x (by simp [hx])]
end Gp
set_option linter.unusedVariables false
set_option linter.unusedSimpArgs false
namespace Gp
open Gw Gq
end Gp
set_option linter.unusedVariables false
set_option linter.unusedSimpArgs false
namespace Gp
open Gw Gq
theorem count_lt {p q : Nat → Bool} (h : ∀ j, p j = true → q j = true) : ∀ {l : List Nat} {i : Nat}, i ∈ l → q i = true → p i = false → l.countP p < l.countP q
  | a :: l, i, hi, hq, hp => by
    have hle : l.countP p ≤ l.countP q := List.countP_mono_left fun x _ hx => h x hx
    rw [List.countP_cons, List.countP_cons]
    rcases List.mem_cons.1 hi with e | hi
    · subst e; rw [hq, hp]; simp; omega
    · have := count_lt h hi hq hp
      cases hpa : p a
      · simp; omega
      · rw [h a hpa]; simp; omega
end Gp
set_option linter.unusedVariables false
set_option linter.unusedSimpArgs false
namespace Gp
open Gw Gq
end Gp
set_option linter.unusedVariables false
set_option linter.unusedSimpArgs false
namespace Gp
open Gw Gq
def begN (s : List Tile) : Nat → Nat → Bool
  | 0, _ => true
  | n + 1, i => (List.range s.length).any fun k => begN s n k && ((s.getD i z_Tile).E == (s.getD k z_Tile).W)
end Gp
set_option linter.unusedVariables false
set_option linter.unusedSimpArgs false
namespace Gp
open Gw Gq
def firstNo (P : Nat → Bool) : Nat → Nat → Option Nat
  | 0, _ => none
  | d + 1, x => if P x = true then firstNo P d (x + 1) else some x
end Gp
set_option linter.unusedVariables false
set_option linter.unusedSimpArgs false
namespace Gp
open Gw Gq
theorem beg_mono (s : List Tile) : ∀ (n i : Nat), begN s (n + 1) i = true → begN s n i = true
  | 0, i, h => rfl
  | n + 1, i, h => by
    unfold begN at h ⊢
    rw [List.any_eq_true] at h ⊢
    obtain ⟨k, hk, h2⟩ := h
    rw [Bool.and_eq_true] at h2
    exact ⟨k, hk, by rw [beg_mono s n k h2.1, h2.2]; rfl⟩
theorem beg_stay (s : List Tile) {n : Nat} (h : ∀ i, i < s.length → begN s n i = begN s (n + 1) i) : ∀ m, ∀ i, i < s.length → begN s (n + m) i = begN s n i
  | 0, i, hi => rfl
  | m + 1, i, hi => by
    have e : begN s (n + (m + 1)) i = begN s (n + 1) i := by
      show begN s (n + m + 1) i = begN s (n + 1) i
      unfold begN
      refine any_cong fun k hk => ?_
      rw [beg_stay s h m k (List.mem_range.1 hk)]
    rw [e, ← h i hi]
theorem beg_all (s : List Tile) (h : (List.range s.length).any (begN s s.length) = true) (m : Nat) : (List.range s.length).any (begN s m) = true := by
  have key : ∀ n, n ≤ s.length → (∃ j, j < n ∧ ∀ i, i < s.length → begN s j i = begN s (j + 1) i) ∨ (List.range s.length).countP (begN s n) + n ≤ s.length := by
    intro n
    induction n with
    | zero => intro _; exact .inr (by have := List.countP_le_length (p := begN s 0) (l := List.range s.length); rw [List.length_range] at this; omega)
    | succ n ih =>
      intro hn
      rcases ih (by omega) with ⟨j, hj, h1⟩ | h1
      · exact .inl ⟨j, by omega, h1⟩
      · by_cases hs : ∀ i, i < s.length → begN s n i = begN s (n + 1) i
        · exact .inl ⟨n, by omega, hs⟩
        · refine .inr ?_
          obtain ⟨i, hi⟩ := Classical.not_forall.1 hs
          obtain ⟨hi1, hi2⟩ := Classical.not_imp.1 hi
          have hp : begN s n i = true ∧ begN s (n + 1) i = false := by
            cases h3 : begN s (n + 1) i
            · cases h4 : begN s n i
              · rw [h3, h4] at hi2; exact absurd rfl hi2
              · exact ⟨rfl, rfl⟩
            · rw [beg_mono s n i h3, h3] at hi2; exact absurd rfl hi2
          have := count_lt (p := begN s (n + 1)) (q := begN s n) (fun j => beg_mono s n j) (List.mem_range.2 hi1) hp.1 hp.2
          omega
  rcases key s.length (Nat.le_refl _) with ⟨j, hj, hst⟩ | h1
  · rw [List.any_eq_true] at h ⊢
    obtain ⟨i, hi, hb⟩ := h
    have hi2 := List.mem_range.1 hi
    have e1 := beg_stay s hst (s.length - j) i hi2
    rw [show j + (s.length - j) = s.length by omega, hb] at e1
    refine ⟨i, hi, ?_⟩
    by_cases hm : j ≤ m
    · have := beg_stay s hst (m - j) i hi2
      rw [show j + (m - j) = m by omega] at this
      rw [this, ← e1]
    · have down : ∀ d, begN s (m + d) i = true → begN s m i = true := fun d => by
        induction d with
        | zero => exact id
        | succ d ih => exact fun hd => ih (beg_mono s (m + d) i hd)
      exact down (j - m) (by rw [show m + (j - m) = j by omega]; exact e1.symm)
  · exfalso
    rw [List.any_eq_true] at h
    obtain ⟨i, hi, hb⟩ := h
    have : 0 < (List.range s.length).countP (begN s s.length) := List.countP_pos_iff.2 ⟨i, hi, hb⟩
    omega
end Gp
set_option linter.unusedVariables false
set_option linter.unusedSimpArgs false
namespace Gp
open Gw Gq
theorem pr_l0 : ∀ (d x k : Nat) (c : A16_Int), x + d = 1000 → d < k → okC c → (∀ y, y < 1000 → hasC c y = decide (y < x)) → ∃ c', strip_Rows.l0 k c x = some c' ∧ okC c' ∧ ∀ y, y < 1000 → hasC c' y = true
  | 0, x, k, c, e, hk, hc, hy => by
    obtain ⟨k, rfl⟩ : ∃ m, k = m + 1 := ⟨k - 1, by omega⟩
    exact ⟨c, by rw [strip_Rows.l0, if_neg (by simp; omega)], hc, fun y h => by rw [hy y h]; exact decide_eq_true (by omega)⟩
  | d + 1, x, k, c, e, hk, hc, hy => by
    obtain ⟨k, rfl⟩ : ∃ m, k = m + 1 := ⟨k - 1, by omega⟩
    have hwx : w64 ((x : Int) + 1) = ((x + 1 : Nat) : Int) := by rw [w64_id (by omega) (by omega)]; rfl
    obtain ⟨c1, h1, h2, h3⟩ := put_eq hc (x := x) (by omega)
    obtain ⟨c', e1, h4, h5⟩ := pr_l0 d (x + 1) k c1 (by omega) (by omega) h2 (fun y h => by
      rw [h3 y h, hy y h, Bool.eq_iff_iff]; simp; omega)
    exact ⟨c', by rw [strip_Rows.l0, if_pos (by simp; omega), h1, Option.bind_some, hwx]; exact e1, h4, h5⟩
theorem pr_l2 {s : List Tile} (hs : colB4 s) (hls : s.length ≤ 1000) {at_ : A16_Int} (hat : okC at_) : ∀ (d x k : Nat) (nx : A16_Int), x + d = s.length → d < k → okC nx → (∀ y : Nat, y < 1024 → hasC nx y = (s.take x).any fun t => decide (t.W = (y : Int)) && hasC at_ t.E.toNat) →
    ∃ c', strip_Rows.l2 k nx x s at_ = some c' ∧ okC c' ∧ ∀ y : Nat, y < 1024 → hasC c' y = s.any fun t => decide (t.W = (y : Int)) && hasC at_ t.E.toNat
  | 0, x, k, nx, e, hk, hn, hx => by
    obtain ⟨k, rfl⟩ : ∃ m, k = m + 1 := ⟨k - 1, by omega⟩
    exact ⟨nx, by rw [strip_Rows.l2, if_neg (by simp; omega)], hn, fun y hy => by rw [hx y hy, List.take_of_length_le (by omega)]⟩
  | d + 1, x, k, nx, e, hk, hn, hx => by
    obtain ⟨k, rfl⟩ : ∃ m, k = m + 1 := ⟨k - 1, by omega⟩
    have hlt : x < s.length := by omega
    have hwx : w64 ((x : Int) + 1) = ((x + 1 : Nat) : Int) := by rw [w64_id (by omega) (by omega)]; rfl
    obtain ⟨-, ⟨hE0, hE1⟩, -, ⟨hW0, hW1⟩⟩ := hs s[x] (List.getElem_mem hlt)
    obtain ⟨eE, heE⟩ : ∃ m : Nat, s[x].E = m := ⟨s[x].E.toNat, by omega⟩
    obtain ⟨wW, hwW⟩ : ∃ m : Nat, s[x].W = m := ⟨s[x].W.toNat, by omega⟩
    have hhas : strip_colours_has at_ s[x].E = some (hasC at_ s[x].E.toNat) := by rw [heE, has_eq hat (by omega), Int.toNat_natCast]
    have htake : ∀ (f : Tile → Bool), (s.take (x + 1)).any f = ((s.take x).any f || f s[x]) := fun f => by
      rw [List.take_succ_eq_append_getElem hlt, List.any_append]; simp
    rw [strip_Rows.l2, if_pos (by simpa using hlt), if_pos (show 0 ≤ (x : Int) ∧ (x : Int) < (s.length : Int) by omega), rdD_get hlt, hhas, Option.bind_some, hwx]
    cases hb : hasC at_ s[x].E.toNat
    · rw [if_neg (by simp), Option.bind_some]
      exact pr_l2 hs hls hat d (x + 1) k nx (by omega) (by omega) hn fun y hy => by rw [htake, hx y hy, hb]; simp
    · obtain ⟨c, hc1, hc2, hc3⟩ := put_eqL hn (x := wW) (by omega)
      rw [if_pos rfl, hwW, hc1, Option.bind_some, Option.bind_some]
      refine pr_l2 hs hls hat d (x + 1) k c (by omega) (by omega) hc2 fun y hy => ?_
      rw [hc3 y hy, htake, hx y hy, hb, hwW]
      congr 1
      rw [Bool.and_true, Bool.eq_iff_iff]; simp; omega
end Gp
set_option linter.unusedVariables false
set_option linter.unusedSimpArgs false
namespace Gp
open Gw Gq
theorem any_idx (s : List Tile) (p : Tile → Bool) : s.any p = (List.range s.length).any fun i => p (s.getD i z_Tile) := by
  rw [Bool.eq_iff_iff, List.any_eq_true, List.any_eq_true]
  constructor
  · rintro ⟨t, ht, hp⟩
    obtain ⟨i, hi, rfl⟩ := List.getElem_of_mem ht
    refine ⟨i, List.mem_range.2 hi, ?_⟩
    rw [List.getD_eq_getElem?_getD, List.getElem?_eq_getElem hi]; exact hp
  · rintro ⟨i, hi, hp⟩
    have hi := List.mem_range.1 hi
    rw [List.getD_eq_getElem?_getD, List.getElem?_eq_getElem hi] at hp
    exact ⟨_, List.getElem_mem hi, hp⟩
def AtI (s : List Tile) (n : Nat) (c : A16_Int) : Prop := okC c ∧ ∀ y : Nat, y < 1000 → hasC c y = (decide (n = 0) || (List.range s.length).any fun i => decide ((s.getD i z_Tile).W = (y : Int)) && begN s (n - 1) i)
theorem at_tile {s : List Tile} (hs : colB4 s) {n : Nat} {c : A16_Int} (h : AtI s n c) {i : Nat} (hi : i < s.length) : hasC c (s.getD i z_Tile).E.toNat = begN s n i := by
  have hg : s.getD i z_Tile = s[i] := by simp [List.getElem?_eq_getElem hi]
  obtain ⟨-, ⟨hE0, hE1⟩, -, -⟩ := hs s[i] (List.getElem_mem hi)
  rw [h.2 _ (by rw [hg]; omega)]
  cases n with
  | zero => simp [begN]
  | succ n =>
    rw [begN, Bool.eq_iff_iff]
    simp only [Nat.add_sub_cancel, Bool.or_eq_true, decide_eq_true_eq, List.any_eq_true, List.mem_range, Bool.and_eq_true, beq_iff_eq]
    have he : ((s.getD i z_Tile).E.toNat : Int) = (s.getD i z_Tile).E := by rw [hg]; omega
    rw [he]
    constructor
    · rintro (h | ⟨k, hk, h1, h2⟩)
      · omega
      · exact ⟨k, hk, h2, h1.symm⟩
    · rintro ⟨k, hk, h1, h2⟩
      exact .inr ⟨k, hk, h2.symm, h1⟩
theorem at_step {s : List Tile} (hs : colB4 s) {n : Nat} {c c' : A16_Int} (h : AtI s n c) (ho : okC c') (hc : ∀ y : Nat, y < 1024 → hasC c' y = s.any fun t => decide (t.W = (y : Int)) && hasC c t.E.toNat) :
    AtI s (n + 1) c' ∧ ((∀ y : Nat, y < 1024 → hasC c' y = false) ↔ (List.range s.length).any (begN s n) = false) := by
  have hc2 : ∀ y : Nat, y < 1024 → hasC c' y = (List.range s.length).any fun i => decide ((s.getD i z_Tile).W = (y : Int)) && begN s n i := fun y hy => by
    rw [hc y hy, any_idx, Bool.eq_iff_iff, List.any_eq_true, List.any_eq_true]
    constructor
    · rintro ⟨i, hi, h1⟩
      exact ⟨i, hi, by rwa [at_tile hs h (List.mem_range.1 hi)] at h1⟩
    · rintro ⟨i, hi, h1⟩
      exact ⟨i, hi, by rwa [at_tile hs h (List.mem_range.1 hi)]⟩
  refine ⟨⟨ho, fun y hy => by rw [hc2 y (by omega)]; simp⟩, ?_⟩
  constructor
  · intro hz
    rw [List.any_eq_false]
    intro i hi hb
    have hi := List.mem_range.1 hi
    have hg : s.getD i z_Tile = s[i] := by simp [List.getElem?_eq_getElem hi]
    obtain ⟨-, -, -, ⟨hW0, hW1⟩⟩ := hs s[i] (List.getElem_mem hi)
    have := hz s[i].W.toNat (by omega)
    rw [hc2 _ (by omega), List.any_eq_false] at this
    exact this i (List.mem_range.2 hi) (by rw [hb, hg, Bool.and_true, decide_eq_true_eq]; omega)
  · intro hz y hy
    rw [hc2 y hy, List.any_eq_false]
    rw [List.any_eq_false] at hz
    intro i hi hb
    rw [Bool.and_eq_true] at hb
    exact hz i hi hb.2
theorem firstNo_some (P : Nat → Bool) : ∀ (d x n : Nat), firstNo P d x = some n → x ≤ n ∧ n < x + d ∧ P n = false ∧ ∀ m, x ≤ m → m < n → P m = true
  | 0, x, n, h => by rw [firstNo] at h; cases h
  | d + 1, x, n, h => by
    rw [firstNo] at h
    by_cases hp : P x = true
    · rw [if_pos hp] at h
      obtain ⟨h1, h2, h3, h4⟩ := firstNo_some P d (x + 1) n h
      refine ⟨by omega, by omega, h3, fun m hm hm2 => ?_⟩
      by_cases e : m = x
      · rw [e]; exact hp
      · exact h4 m (by omega) hm2
    · rw [if_neg hp] at h
      cases h
      exact ⟨by omega, by omega, by simpa using hp, fun m h1 h2 => by omega⟩
theorem firstNo_none (P : Nat → Bool) : ∀ (d x : Nat), firstNo P d x = none → ∀ m, x ≤ m → m < x + d → P m = true
  | 0, x, _, m, h1, h2 => by omega
  | d + 1, x, h, m, h1, h2 => by
    rw [firstNo] at h
    by_cases hp : P x = true
    · rw [if_pos hp] at h
      by_cases e : m = x
      · rw [e]; exact hp
      · exact firstNo_none P d (x + 1) h m (by omega) (by omega)
    · rw [if_neg hp] at h; cases h
theorem firstNo_iff (P : Nat → Bool) (d x n : Nat) : firstNo P d x = some n ↔ x ≤ n ∧ n < x + d ∧ P n = false ∧ ∀ m, x ≤ m → m < n → P m = true := by
  refine ⟨firstNo_some P d x n, fun ⟨h1, h2, h3, h4⟩ => ?_⟩
  cases h : firstNo P d x with
  | none => have := firstNo_none P d x h n h1 h2; rw [h3] at this; cases this
  | some m =>
    obtain ⟨k1, k2, k3, k4⟩ := firstNo_some P d x m h
    rcases Nat.lt_trichotomy m n with e | e | e
    · have := h4 m k1 e; rw [k3] at this; cases this
    · rw [e]
    · have := k4 n h1 e; rw [h3] at this; cases this
theorem firstNo_beg {s : List Tile} (hl : s.length ≤ 1000) : firstNo (fun n => (List.range s.length).any (begN s n)) 1001 0 = firstNo (fun n => (List.range s.length).any (begN s n)) (s.length + 1) 0 := by
  cases h : firstNo (fun n => (List.range s.length).any (begN s n)) (s.length + 1) 0 with
  | some n =>
    obtain ⟨h1, h2, h3, h4⟩ := firstNo_some _ _ _ _ h
    exact (firstNo_iff _ _ _ _).2 ⟨h1, by omega, h3, h4⟩
  | none =>
    have hb := firstNo_none _ _ _ h s.length (by omega) (by omega)
    cases h2 : firstNo (fun n => (List.range s.length).any (begN s n)) 1001 0 with
    | none => rfl
    | some m =>
      obtain ⟨-, -, h3, -⟩ := firstNo_some _ _ _ _ h2
      have := beg_all s hb m
      rw [this] at h3; cases h3
end Gp
set_option linter.unusedVariables false
set_option linter.unusedSimpArgs false
namespace OC
def rep (c : Nat) : Nat → Nat
  | 0 => 0
  | n + 1 => 256 * rep c n + c
def s1 (M a : Nat) : Nat := (a / 2 &&& M) + (a &&& M)
def s2 (M a : Nat) : Nat := (a / 4 &&& M) + (a &&& M)
def s3 (M a : Nat) : Nat := (a / 16 + a) &&& M
theorem land_split (a M : Nat) : a &&& M = 256 * (a / 256 &&& M / 256) + (a % 256 &&& M % 256) := by
  have h1 := Nat.and_div_two_pow (a := a) (b := M) (n := 8)
  have h2 := Nat.and_mod_two_pow (a := a) (b := M) (n := 8)
  have e : 2 ^ 8 = 256 := by decide
  rw [e] at h1 h2
  rw [← h1, ← h2, Nat.div_add_mod]
theorem rep_div (c n : Nat) (h : c < 256) : rep c (n + 1) / 256 = rep c n ∧ rep c (n + 1) % 256 = c := by
  show (256 * rep c n + c) / 256 = _ ∧ (256 * rep c n + c) % 256 = c
  omega
def v (b : Nat) : Nat := s2 51 (s1 85 b)
def pc (b : Nat) : Nat := s3 15 (v b)
theorem t1 : ∀ b : Fin 256, ∀ c : Fin 2, (b.1 / 2 + 128 * c.1) &&& 85 = b.1 / 2 &&& 85 := by decide +kernel
theorem t2 : ∀ b : Fin 256, ∀ c : Fin 4, (b.1 / 4 + 64 * c.1) &&& 51 = b.1 / 4 &&& 51 := by decide +kernel
theorem t0 : ∀ b : Fin 256, s1 85 b.1 < 256 ∧ v b.1 ≤ 68 ∧ v b.1 % 16 ≤ 4 ∧ pc b.1 ≤ 8 ∧ (pc b.1 = 0 → b.1 = 0) := by decide +kernel
theorem s1_succ (n a : Nat) : s1 (rep 85 (n + 1)) a = 256 * s1 (rep 85 n) (a / 256) + s1 85 (a % 256) := by
  obtain ⟨e1, e2⟩ := rep_div 85 n (by omega)
  unfold s1
  rw [land_split (a / 2), land_split a, e1, e2]
  have h := t1 ⟨a % 256, Nat.mod_lt _ (by omega)⟩ ⟨a / 256 % 2, Nat.mod_lt _ (by omega)⟩
  simp only at h
  rw [show a / 2 / 256 = a / 256 / 2 by omega, show a / 2 % 256 = a % 256 / 2 + 128 * (a / 256 % 2) by omega, h]
  omega
theorem s2_succ (n a : Nat) : s2 (rep 51 (n + 1)) a = 256 * s2 (rep 51 n) (a / 256) + s2 51 (a % 256) := by
  obtain ⟨e1, e2⟩ := rep_div 51 n (by omega)
  unfold s2
  rw [land_split (a / 4), land_split a, e1, e2]
  have h := t2 ⟨a % 256, Nat.mod_lt _ (by omega)⟩ ⟨a / 256 % 4, Nat.mod_lt _ (by omega)⟩
  simp only at h
  rw [show a / 4 / 256 = a / 256 / 4 by omega, show a / 4 % 256 = a % 256 / 4 + 64 * (a / 256 % 4) by omega, h]
  omega
def U (n a : Nat) : Nat := s2 (rep 51 n) (s1 (rep 85 n) a)
def F (n a : Nat) : Nat := s3 (rep 15 n) (U n a)
theorem U_succ (n a : Nat) : U (n + 1) a = 256 * U n (a / 256) + v (a % 256) := by
  unfold U v
  obtain ⟨h, -⟩ := t0 ⟨a % 256, Nat.mod_lt _ (by omega)⟩
  simp only at h
  rw [s1_succ, s2_succ]
  congr 2
  · congr 1; omega
  · congr 1; omega
theorem U_16 : ∀ n a, U n a % 16 ≤ 4
  | 0, a => by simp [U, s2, rep]
  | n + 1, a => by
    obtain ⟨-, -, h, -⟩ := t0 ⟨a % 256, Nat.mod_lt _ (by omega)⟩
    simp only at h
    rw [U_succ]; omega
theorem and15 (a : Nat) : a &&& 15 = a % 16 := Nat.and_two_pow_sub_one_eq_mod a 4
theorem F_succ (n a : Nat) : F (n + 1) a = 256 * F n (a / 256) + pc (a % 256) := by
  obtain ⟨e1, e2⟩ := rep_div 15 n (by omega)
  obtain ⟨-, h1, h2, -⟩ := t0 ⟨a % 256, Nat.mod_lt _ (by omega)⟩
  simp only at h1 h2
  have h3 := U_16 n (a / 256)
  unfold F pc s3
  rw [land_split, e1, e2, U_succ, and15, and15]
  generalize U n (a / 256) = u at *
  generalize v (a % 256) = b at *
  rw [show ((256 * u + b) / 16 + (256 * u + b)) / 256 = u / 16 + u by omega]
  omega
theorem F0 (a : Nat) : F 0 a = 0 := by simp [F, s3, rep]
theorem step {x : Nat} (h : x / 256 = 0) (h0 : x % 256 = 0) : x = 0 := by omega
theorem dv {p d q : Nat} (hd : d < 256) (h : p = 256 * q + d) : p / 256 = q := by omega
theorem fin (x : Nat) (hx : x < 18446744073709551616) : ∃ y, F 8 x = y ∧ y ≤ 0x0808080808080808 ∧ (((y + y / 256) + (y + y / 256) / 65536) + ((y + y / 256) + (y + y / 256) / 65536) / 4294967296) < 9223372036854775808 ∧ ((((y + y / 256) + (y + y / 256) / 65536) + ((y + y / 256) + (y + y / 256) / 65536) / 4294967296) % 128 = 0 → x = 0) := by
  refine ⟨_, rfl, ?_⟩
  simp only [F_succ, F0]
  have g : ∀ a, pc (a % 256) ≤ 8 ∧ (pc (a % 256) = 0 → a % 256 = 0) := fun a => (t0 ⟨a % 256, Nat.mod_lt _ (by omega)⟩).2.2.2
  obtain ⟨x1, hx1⟩ : ∃ y, y = x / 256 := ⟨_, rfl⟩
  rw [← hx1]
  obtain ⟨x2, hx2⟩ : ∃ y, y = x1 / 256 := ⟨_, rfl⟩
  rw [← hx2]
  obtain ⟨x3, hx3⟩ : ∃ y, y = x2 / 256 := ⟨_, rfl⟩
  rw [← hx3]
  obtain ⟨x4, hx4⟩ : ∃ y, y = x3 / 256 := ⟨_, rfl⟩
  rw [← hx4]
  obtain ⟨x5, hx5⟩ : ∃ y, y = x4 / 256 := ⟨_, rfl⟩
  rw [← hx5]
  obtain ⟨x6, hx6⟩ : ∃ y, y = x5 / 256 := ⟨_, rfl⟩
  rw [← hx6]
  obtain ⟨x7, hx7⟩ : ∃ y, y = x6 / 256 := ⟨_, rfl⟩
  rw [← hx7]
  have b1 : x1 < 72057594037927936 := by omega
  have b2 : x2 < 281474976710656 := by omega
  have b3 : x3 < 1099511627776 := by omega
  have b4 : x4 < 4294967296 := by omega
  have b5 : x5 < 16777216 := by omega
  have b6 : x6 < 65536 := by omega
  have b7 : x7 < 256 := by omega
  obtain ⟨p0, z0⟩ := g x
  obtain ⟨p1, z1⟩ := g x1
  obtain ⟨p2, z2⟩ := g x2
  obtain ⟨p3, z3⟩ := g x3
  obtain ⟨p4, z4⟩ := g x4
  obtain ⟨p5, z5⟩ := g x5
  obtain ⟨p6, z6⟩ := g x6
  obtain ⟨p7, z7⟩ := g x7
  have key : pc (x % 256) + pc (x1 % 256) + pc (x2 % 256) + pc (x3 % 256) + pc (x4 % 256) + pc (x5 % 256) + pc (x6 % 256) + pc (x7 % 256) = 0 → x = 0 := fun h => by
    have q7 : x7 = 0 := by have := z7 (by omega); omega
    have q6 : x6 = 0 := step (by omega) (z6 (by omega))
    have q5 : x5 = 0 := step (by omega) (z5 (by omega))
    have q4 : x4 = 0 := step (by omega) (z4 (by omega))
    have q3 : x3 = 0 := step (by omega) (z3 (by omega))
    have q2 : x2 = 0 := step (by omega) (z2 (by omega))
    have q1 : x1 = 0 := step (by omega) (z1 (by omega))
    exact step (by omega) (z0 (by omega))
  clear hx1 hx2 hx3 hx4 hx5 hx6 hx7 z0 z1 z2 z3 z4 z5 z6 z7 b1 b2 b3 b4 b5 b6 b7 g hx
  generalize pc (x % 256) = d0 at *
  generalize pc (x1 % 256) = d1 at *
  generalize pc (x2 % 256) = d2 at *
  generalize pc (x3 % 256) = d3 at *
  generalize pc (x4 % 256) = d4 at *
  generalize pc (x5 % 256) = d5 at *
  generalize pc (x6 % 256) = d6 at *
  generalize pc (x7 % 256) = d7 at *
  generalize hy : 256 * (256 * (256 * (256 * (256 * (256 * (256 * (256 * 0 + d7) + d6) + d5) + d4) + d3) + d2) + d1) + d0 = y
  refine ⟨by omega, ?_⟩
  obtain ⟨y1, hy1⟩ : ∃ y1, y1 = y / 256 := ⟨_, rfl⟩
  have k1 : y1 = 256 * (256 * (256 * (256 * (256 * (256 * (256 * 0 + d7) + d6) + d5) + d4) + d3) + d2) + d1 := by rw [hy1]; exact dv (by omega) hy.symm
  rw [← hy1]
  generalize hx4 : y + y1 = x4
  have e4 : x4 = 256 * (256 * (256 * (256 * (256 * (256 * (256 * d7 + (d6 + d7)) + (d5 + d6)) + (d4 + d5)) + (d3 + d4)) + (d2 + d3)) + (d1 + d2)) + (d0 + d1) := by omega
  generalize hy2 : x4 / 65536 = y2
  have k2 : y2 = 256 * (256 * (256 * (256 * (256 * d7 + (d6 + d7)) + (d5 + d6)) + (d4 + d5)) + (d3 + d4)) + (d2 + d3) := by
    rw [← hy2, show 65536 = 256 * 256 by rfl, ← Nat.div_div_eq_div_mul]
    exact dv (by omega) (dv (by omega) e4)
  generalize hx5 : x4 + y2 = x5
  have e5 : x5 = 256 * (256 * (256 * (256 * (256 * (256 * (256 * d7 + (d6 + d7)) + (d5 + d6 + d7)) + (d4 + d5 + d6 + d7)) + (d3 + d4 + d5 + d6)) + (d2 + d3 + d4 + d5)) + (d1 + d2 + d3 + d4)) + (d0 + d1 + d2 + d3) := by omega
  generalize hy3 : x5 / 4294967296 = y3
  have k3 : y3 = 256 * (256 * (256 * d7 + (d6 + d7)) + (d5 + d6 + d7)) + (d4 + d5 + d6 + d7) := by
    rw [← hy3, show 4294967296 = 256 * 256 * 256 * 256 by rfl, ← Nat.div_div_eq_div_mul, ← Nat.div_div_eq_div_mul, ← Nat.div_div_eq_div_mul]
    exact dv (by omega) (dv (by omega) (dv (by omega) (dv (by omega) e5)))
  clear hy hy1 k1 hx4 e4 hy2 k2 hx5 hy3
  refine ⟨by omega, fun h => key ?_⟩
  have e6 : x5 + y3 = 256 * (256 * (256 * (256 * (256 * (256 * (256 * d7 + (d6 + d7)) + (d5 + d6 + d7)) + (d4 + d5 + d6 + d7)) + (d3 + d4 + d5 + d6 + d7)) + (d2 + d3 + d4 + d5 + (d6 + d7))) + (d1 + d2 + d3 + d4 + (d5 + d6 + d7))) + (d0 + d1 + d2 + d3 + (d4 + d5 + d6 + d7)) := by omega
  generalize 256 * (256 * (256 * (256 * (256 * (256 * d7 + (d6 + d7)) + (d5 + d6 + d7)) + (d4 + d5 + d6 + d7)) + (d3 + d4 + d5 + d6 + d7)) + (d2 + d3 + d4 + d5 + (d6 + d7))) + (d1 + d2 + d3 + d4 + (d5 + d6 + d7)) = A at e6
  omega
end OC
set_option linter.unusedVariables false
set_option linter.unusedSimpArgs false
namespace Gp
open Gw Gq
theorem shrN {a n : Nat} : shrV (a : Int) (n : Int) = ((a / 2 ^ n : Nat) : Int) := by
  unfold shrV
  rw [Int.toNat_natCast, Int.fdiv_eq_ediv_of_nonneg _ (by exact Int.le_of_lt (Int.pow_pos (by decide)))]
  simp
theorem andN {a b : Nat} (ha : a < 18446744073709551616) (hb : b < 18446744073709551616) : andV (a : Int) (b : Int) = ((a &&& b : Nat) : Int) ∧ a &&& b ≤ b := by
  have hle : a &&& b ≤ b := Nat.and_le_right
  refine ⟨?_, hle⟩
  unfold andV
  rw [BitVec.toNat_and, bv_of, bv_of, Nat.mod_eq_of_lt ha, Nat.mod_eq_of_lt hb, u64_id (by omega)]
theorem andI127 {a : Nat} (ha : a < 9223372036854775808) : andI (a : Int) 127 = ((a % 128 : Nat) : Int) := by
  have e1 : (BitVec.ofInt 64 (127 : Int)).toNat = 127 := by decide
  unfold andI
  rw [BitVec.toNat_and, bv_of, e1, Nat.mod_eq_of_lt (by omega), show 127 = 2 ^ 7 - 1 by rfl, Nat.and_two_pow_sub_one_eq_mod]
  have hm : a % 2 ^ 7 < 2 ^ 7 := Nat.mod_lt _ (by decide)
  have := w64_id (n := ((a % 2 ^ 7 : Nat) : Int)) (by omega) (by omega)
  exact this
theorem ones_eq {w : Nat} (hw : w < 18446744073709551616) : ∃ r : Nat, bits_OnesCount64 (w : Int) = some (r : Int) ∧ r ≤ 127 ∧ (r = 0 → w = 0) ∧ (w = 0 → r = 0) := by
  obtain ⟨y, hy, hy1, hy2, hy3⟩ := OC.fin w hw
  have s1' : ∀ n : Nat, shrV (n : Int) 1 = ((n / 2 : Nat) : Int) := fun n => shrN (n := 1)
  have s2' : ∀ n : Nat, shrV (n : Int) 2 = ((n / 4 : Nat) : Int) := fun n => shrN (n := 2)
  have s4' : ∀ n : Nat, shrV (n : Int) 4 = ((n / 16 : Nat) : Int) := fun n => shrN (n := 4)
  have s8' : ∀ n : Nat, shrV (n : Int) 8 = ((n / 256 : Nat) : Int) := fun n => shrN (n := 8)
  have s16' : ∀ n : Nat, shrV (n : Int) 16 = ((n / 65536 : Nat) : Int) := fun n => shrN (n := 16)
  have s32' : ∀ n : Nat, shrV (n : Int) 32 = ((n / 4294967296 : Nat) : Int) := fun n => shrN (n := 32)
  have a1 : Go.IntKind.wrap .u64 (andV (shrV (w : Int) 1) 6148914691236517205 + andV (w : Int) 6148914691236517205) = ((OC.s1 (OC.rep 85 8) w : Nat) : Int) ∧ OC.s1 (OC.rep 85 8) w ≤ 12297829382473034410 := by
    obtain ⟨p1, p2⟩ := andN (a := w / 2) (b := 6148914691236517205) (by omega) (by omega)
    obtain ⟨q1, q2⟩ := andN (a := w) (b := 6148914691236517205) (by omega) (by omega)
    have e : OC.s1 (OC.rep 85 8) w = (w / 2 &&& 6148914691236517205) + (w &&& 6148914691236517205) := rfl
    rw [s1', show (6148914691236517205 : Int) = ((6148914691236517205 : Nat) : Int) by rfl, p1, q1, e]
    exact ⟨by rw [← Int.natCast_add, u64_id (by omega)], by omega⟩
  obtain ⟨a1, b1⟩ := a1
  unfold bits_OnesCount64
  rw [a1]
  generalize hx1 : OC.s1 (OC.rep 85 8) w = x1 at *
  have a2 : Go.IntKind.wrap .u64 (andV (shrV (x1 : Int) 2) 3689348814741910323 + andV (x1 : Int) 3689348814741910323) = ((OC.s2 (OC.rep 51 8) x1 : Nat) : Int) ∧ OC.s2 (OC.rep 51 8) x1 ≤ 7378697629483820646 := by
    obtain ⟨p1, p2⟩ := andN (a := x1 / 4) (b := 3689348814741910323) (by omega) (by omega)
    obtain ⟨q1, q2⟩ := andN (a := x1) (b := 3689348814741910323) (by omega) (by omega)
    have e : OC.s2 (OC.rep 51 8) x1 = (x1 / 4 &&& 3689348814741910323) + (x1 &&& 3689348814741910323) := rfl
    rw [s2', show (3689348814741910323 : Int) = ((3689348814741910323 : Nat) : Int) by rfl, p1, q1, e]
    exact ⟨by rw [← Int.natCast_add, u64_id (by omega)], by omega⟩
  obtain ⟨a2, b2⟩ := a2
  rw [a2]
  generalize hx2 : OC.s2 (OC.rep 51 8) x1 = x2 at *
  have a3 : andV (Go.IntKind.wrap .u64 (shrV (x2 : Int) 4 + (x2 : Int))) 1085102592571150095 = (y : Int) := by
    have e : OC.F 8 w = (x2 / 16 + x2) &&& 1085102592571150095 := by
      show OC.s3 (OC.rep 15 8) (OC.s2 (OC.rep 51 8) (OC.s1 (OC.rep 85 8) w)) = _
      rw [hx1, hx2]; rfl
    rw [s4', ← Int.natCast_add, u64_id (by omega), show (1085102592571150095 : Int) = ((1085102592571150095 : Nat) : Int) by rfl, (andN (by omega) (by omega)).1, ← e, hy]
  rw [a3]
  have a4 : Go.IntKind.wrap .u64 ((y : Int) + shrV (y : Int) 8) = ((y + y / 256 : Nat) : Int) := by
    rw [s8', ← Int.natCast_add, u64_id (by omega)]
  rw [a4]
  generalize hx4 : y + y / 256 = x4 at *
  have a5 : Go.IntKind.wrap .u64 ((x4 : Int) + shrV (x4 : Int) 16) = ((x4 + x4 / 65536 : Nat) : Int) := by
    rw [s16', ← Int.natCast_add, u64_id (by omega)]
  rw [a5]
  generalize hx5 : x4 + x4 / 65536 = x5 at *
  have a6 : Go.IntKind.wrap .u64 ((x5 : Int) + shrV (x5 : Int) 32) = ((x5 + x5 / 4294967296 : Nat) : Int) := by
    rw [s32', ← Int.natCast_add, u64_id (by omega)]
  rw [a6]
  generalize hx6 : x5 + x5 / 4294967296 = x6 at *
  rw [w64_id (by omega) (by omega), andI127 hy2]
  refine ⟨_, rfl, by omega, hy3, fun h => ?_⟩
  subst h
  have z1 : x1 = 0 := by rw [← hx1]; decide
  subst z1
  have z2 : x2 = 0 := by rw [← hx2]; decide
  subst z2
  have z3 : y = 0 := by rw [← hy]; decide
  omega
theorem word_zero {c : A16_Int} (hc : okC c) : (∀ y : Nat, y < 1024 → hasC c y = false) ↔ ∀ i : Nat, i < 16 → getI (wdsA c) (i : Int) = 0 := by
  constructor
  · intro h i hi
    obtain ⟨n, en, hn⟩ := hc i hi
    rw [en]
    have : n = 0 := by
      refine Nat.eq_of_testBit_eq fun j => ?_
      rw [Nat.zero_testBit]
      by_cases hj : j < 64
      · have := h (64 * i + j) (by omega)
        unfold hasC at this
        rw [show (64 * i + j) / 64 = i by omega, show (64 * i + j) % 64 = j by omega, en, Int.toNat_natCast] at this
        exact this
      · exact Nat.testBit_lt_two_pow (Nat.lt_of_lt_of_le hn (Nat.pow_le_pow_right (n := 2) (i := 64) (by omega) (by omega)))
    rw [this]; rfl
  · intro h y hy
    unfold hasC
    rw [h (y / 64) (by omega)]
    simp
theorem pr_l3 {c : A16_Int} (hc : okC c) : ∀ (d x k acc : Nat), x + d = 16 → d < k → acc ≤ 127 * x → ∃ r : Nat, strip_Rows.l3 k acc x c = some (r : Int) ∧ (r = 0 ↔ acc = 0 ∧ ∀ i : Nat, x ≤ i → i < 16 → getI (wdsA c) (i : Int) = 0)
  | 0, x, k, acc, e, hk, ha => by
    obtain ⟨k, rfl⟩ : ∃ m, k = m + 1 := ⟨k - 1, by omega⟩
    refine ⟨acc, by rw [strip_Rows.l3, if_neg (by simp; omega)], fun h => ⟨h, fun i h1 h2 => by omega⟩, fun h => h.1⟩
  | d + 1, x, k, acc, e, hk, ha => by
    obtain ⟨k, rfl⟩ : ∃ m, k = m + 1 := ⟨k - 1, by omega⟩
    have hwx : w64 ((x : Int) + 1) = ((x + 1 : Nat) : Int) := by rw [w64_id (by omega) (by omega)]; rfl
    obtain ⟨n, en, hn⟩ := hc x (by omega)
    obtain ⟨r, h1, h2, h3, h4⟩ := ones_eq hn
    have hwa : w64 ((acc : Int) + (r : Int)) = ((acc + r : Nat) : Int) := by rw [w64_id (by omega) (by omega)]; rfl
    obtain ⟨r', e1, e2⟩ := pr_l3 hc d (x + 1) k (acc + r) (by omega) (by omega) (by omega)
    refine ⟨r', by rw [strip_Rows.l3, if_pos (by simp; omega), if_pos (by omega), get_wds, en, h1, Option.bind_some, hwx, hwa, e1], ?_⟩
    rw [e2]
    constructor
    · rintro ⟨h5, h6⟩
      refine ⟨by omega, fun i hi1 hi2 => ?_⟩
      by_cases ei : i = x
      · rw [ei, en, h3 (by omega)]; rfl
      · exact h6 i (by omega) hi2
    · rintro ⟨h5, h6⟩
      have hz : n = 0 := by
        have := h6 x (by omega) (by omega)
        rw [en] at this
        omega
      exact ⟨by have := h4 hz; omega, fun i hi1 hi2 => h6 i (by omega) hi2⟩
def rowsX (s : List Tile) : Int × Int := match firstNo (fun n => (List.range s.length).any (begN s n)) (s.length + 1) 0 with
  | none => (0, 6)
  | some n => ((n : Int), 0)
theorem pr_l1 {s : List Tile} (hs : colB4 s) (hls : s.length ≤ 1000) : ∀ (d x k : Nat) (c : A16_Int), x + d = 1001 → d + 1100 < k → AtI s x c → strip_Rows.l1 k c x s = some (match firstNo (fun n => (List.range s.length).any (begN s n)) d x with
    | none => .inr ()
    | some n => .inl ((n : Int), 0))
  | 0, x, k, c, e, hk, h => by
    obtain ⟨k, rfl⟩ : ∃ m, k = m + 1 := ⟨k - 1, by omega⟩
    rw [strip_Rows.l1, if_neg (by simp; omega)]; rfl
  | d + 1, x, k, c, e, hk, h => by
    obtain ⟨k, rfl⟩ : ∃ m, k = m + 1 := ⟨k - 1, by omega⟩
    have hwx : w64 ((x : Int) + 1) = ((x + 1 : Nat) : Int) := by rw [w64_id (by omega) (by omega)]; rfl
    obtain ⟨c', h1, h2, h3⟩ := pr_l2 hs hls h.1 s.length 0 k zC (by omega) (by omega) okC_z (fun y hy => by rw [hasC_zL hy]; simp)
    have h1 : strip_Rows.l2 k (A16_Int.mk 0 0 0 0 0 0 0 0 0 0 0 0 0 0 0 0) 0 s c = some c' := h1
    obtain ⟨g1, g2⟩ := at_step hs h h2 h3
    obtain ⟨r, e1, e2⟩ := pr_l3 h2 16 0 k 0 (by omega) (by omega) (by omega)
    have e1 : strip_Rows.l3 k 0 0 c' = some (r : Int) := e1
    rw [strip_Rows.l1, if_pos (by simp; omega), h1, Option.bind_some, e1, Option.bind_some, hwx, firstNo]
    have hr : r = 0 ↔ (List.range s.length).any (begN s x) = false := by
      rw [e2, ← g2, word_zero h2]
      exact ⟨fun h i hi => h.2 i (by omega) hi, fun h => ⟨rfl, fun i _ hi => h i hi⟩⟩
    cases hb : (List.range s.length).any (begN s x)
    · have := hr.2 hb
      subst this
      rw [if_pos (by simp), if_neg (by simp)]
    · have : r ≠ 0 := fun e => by rw [hr.1 e] at hb; cases hb
      rw [if_neg (by simpa using this), if_pos rfl]
      exact pr_l1 hs hls d (x + 1) k c' (by omega) (by omega) g1
theorem rows_eq {s : List Tile} (hv : validT s = true) {k : Nat} (hk : 5000 < k) : strip_Rows k s = some (rowsX s) := by
  have hl := valid_len hv
  have hs := colB4_of hv
  obtain ⟨c, h1, h2, h3⟩ := pr_l0 1000 0 k zC (by omega) (by omega) okC_z (fun y hy => by rw [hasC_z hy]; simp)
  have h1 : strip_Rows.l0 k (A16_Int.mk 0 0 0 0 0 0 0 0 0 0 0 0 0 0 0 0) 0 = some c := h1
  have l1 := pr_l1 hs hl 1001 0 k c (by omega) (by omega) ⟨h2, fun y hy => by rw [h3 y hy]; simp⟩
  have l1 : strip_Rows.l1 k c 0 s = _ := l1
  unfold strip_Rows rowsX
  rw [tile_valid s (by omega) (by omega), Option.bind_some, hv, if_neg (by simp), h1, Option.bind_some, l1, Option.bind_some, firstNo_beg hl]
  cases firstNo (fun n => (List.range s.length).any (begN s n)) (s.length + 1) 0 <;> rfl
end Gp
set_option linter.unusedVariables false
set_option linter.unusedSimpArgs false
namespace Gp
open Gw Gq
end Gp
set_option linter.unusedVariables false
set_option linter.unusedSimpArgs false
namespace Gp
open Gw Gq
theorem getD_get {s : List Tile} {i : Nat} (hi : i < s.length) : s.getD i z_Tile = s[i] := by simp [List.getElem?_eq_getElem hi]
theorem lead_beg (s : List Tile) : ∀ (m : Nat) (y : Int), (∃ k, k < s.length ∧ leadR s (s.getD k z_Tile).E (m + 1) y = true) ↔ ∃ i, i < s.length ∧ (s.getD i z_Tile).W = y ∧ begN s m i = true
  | 0, y => by
    simp only [leadR, List.any_eq_true, Bool.and_eq_true, decide_eq_true_eq, begN]
    constructor
    · rintro ⟨k, hk, t, ht, h1, h2⟩
      obtain ⟨i, hi, rfl⟩ := List.getElem_of_mem ht
      exact ⟨i, hi, by rw [getD_get hi]; exact h1, trivial⟩
    · rintro ⟨i, hi, h1, _⟩
      exact ⟨i, hi, s[i], List.getElem_mem hi, by rw [← getD_get hi]; exact h1, by rw [getD_get hi]⟩
  | m + 1, y => by
    have hstep : ∀ to, leadR s to (m + 1 + 1) y = s.any fun t => decide (t.W = y) && leadR s to (m + 1) t.E := fun _ => rfl
    have hbeg : ∀ i, begN s (m + 1) i = (List.range s.length).any fun k => begN s m k && ((s.getD i z_Tile).E == (s.getD k z_Tile).W) := fun _ => rfl
    simp only [hstep, hbeg, List.any_eq_true, Bool.and_eq_true, decide_eq_true_eq, List.mem_range, beq_iff_eq]
    constructor
    · rintro ⟨k, hk, t, ht, h1, h2⟩
      obtain ⟨i, hi, rfl⟩ := List.getElem_of_mem ht
      obtain ⟨j, hj, h3, h4⟩ := (lead_beg s m s[i].E).1 ⟨k, hk, h2⟩
      exact ⟨i, hi, by rw [getD_get hi]; exact h1, j, hj, h4, by rw [getD_get hi]; exact h3.symm⟩
    · rintro ⟨i, hi, h1, j, hj, h4, h3⟩
      obtain ⟨k, hk, h2⟩ := (lead_beg s m (s.getD i z_Tile).E).2 ⟨j, hj, h3.symm, h4⟩
      exact ⟨k, hk, s[i], List.getElem_mem hi, by rw [← getD_get hi]; exact h1, by rw [← getD_get hi]; exact h2⟩
theorem some_l1 {s : List Tile} (hv : validT s = true) {n : Nat} (hn : 1 ≤ n ∧ n ≤ 40000) {i : Nat} (hi : i < s.length) : ∀ (d x k : Nat), x + d = s.length → d + 50000 < k → law04_some.l1 k x s n i = some (if (List.range' x d).any (fun j => leadR s (s.getD j z_Tile).E n (s.getD i z_Tile).W) = true then .inl true else .inr ())
  | 0, x, k, e, hk => by
    obtain ⟨k, rfl⟩ : ∃ m, k = m + 1 := ⟨k - 1, by omega⟩
    rw [law04_some.l1, if_neg (by simp; omega), if_neg (by simp)]
  | d + 1, x, k, e, hk => by
    obtain ⟨k, rfl⟩ : ∃ m, k = m + 1 := ⟨k - 1, by omega⟩
    have hl := valid_len hv
    have hlt : x < s.length := by omega
    have hwx : w64 ((x : Int) + 1) = ((x + 1 : Nat) : Int) := by rw [w64_id (by omega) (by omega)]; rfl
    have e1 : strip_Path k s (rdD s (i : Int) z_Tile).W (rdD s (x : Int) z_Tile).E n = some (if leadR s (s.getD x z_Tile).E n (s.getD i z_Tile).W = true then (walkC s (s.getD x z_Tile).E n (s.getD i z_Tile).W, 0) else ([], 6)) := path_eq hv _ _ hn (by omega)
    rw [law04_some.l1, if_pos (by simpa using hlt), if_pos (by omega), if_pos (by omega), e1, Option.bind_some, List.range'_succ, List.any_cons, hwx]
    cases hb : leadR s (s.getD x z_Tile).E n (s.getD i z_Tile).W
    · rw [Bool.false_or]
      exact some_l1 hv hn hi d (x + 1) k (by omega) (by omega)
    · rw [Bool.true_or]; rfl
theorem some_l0 {s : List Tile} (hv : validT s = true) {n : Nat} (hn : 1 ≤ n ∧ n ≤ 40000) : ∀ (d x k : Nat), x + d = s.length → d + 51100 < k → law04_some.l0 k x s n = some (if (List.range' x d).any (fun i => (List.range s.length).any fun j => leadR s (s.getD j z_Tile).E n (s.getD i z_Tile).W) = true then .inl true else .inr ())
  | 0, x, k, e, hk => by
    obtain ⟨k, rfl⟩ : ∃ m, k = m + 1 := ⟨k - 1, by omega⟩
    rw [law04_some.l0, if_neg (by simp; omega), if_neg (by simp)]
  | d + 1, x, k, e, hk => by
    obtain ⟨k, rfl⟩ : ∃ m, k = m + 1 := ⟨k - 1, by omega⟩
    have hl := valid_len hv
    have hlt : x < s.length := by omega
    have hwx : w64 ((x : Int) + 1) = ((x + 1 : Nat) : Int) := by rw [w64_id (by omega) (by omega)]; rfl
    have l1 := some_l1 hv hn hlt s.length 0 k (by omega) (by omega)
    have l1 : law04_some.l1 k 0 s n x = _ := l1
    rw [law04_some.l0, if_pos (by simpa using hlt), l1, Option.bind_some, List.range'_succ, List.any_cons, hwx, List.range_eq_range']
    cases hb : (List.range' 0 s.length).any (fun j => leadR s (s.getD j z_Tile).E n (s.getD x z_Tile).W)
    · rw [if_neg (by decide), Bool.false_or]
      show law04_some.l0 k ((x + 1 : Nat) : Int) s n = _
      rw [some_l0 hv hn d (x + 1) k (by omega) (by omega), List.range_eq_range']
    · rw [if_pos rfl, Bool.true_or, if_pos rfl]; rfl
theorem some_eq {s : List Tile} (hv : validT s = true) {n : Nat} (hn : n < 40000) {k : Nat} (hk : 60000 < k) : law04_some k s ((n + 1 : Nat) : Int) = some ((List.range s.length).any (begN s n)) := by
  have hl := valid_len hv
  have l0 := some_l0 hv (n := n + 1) (by omega) s.length 0 k (by omega) (by omega)
  have l0 : law04_some.l0 k 0 s ((n + 1 : Nat) : Int) = _ := l0
  have key : (List.range' 0 s.length).any (fun i => (List.range s.length).any fun j => leadR s (s.getD j z_Tile).E (n + 1) (s.getD i z_Tile).W) = (List.range s.length).any (begN s n) := by
    rw [← List.range_eq_range', Bool.eq_iff_iff]
    simp only [List.any_eq_true, List.mem_range]
    constructor
    · rintro ⟨i, hi, j, hj, h⟩
      obtain ⟨x, hx, _, h2⟩ := (lead_beg s n _).1 ⟨j, hj, h⟩
      exact ⟨x, hx, h2⟩
    · rintro ⟨x, hx, h⟩
      obtain ⟨j, hj, h2⟩ := (lead_beg s n (s.getD x z_Tile).W).2 ⟨x, hx, rfl, h⟩
      exact ⟨x, hx, j, hj, h2⟩
  unfold law04_some
  rw [l0, Option.bind_some, key]
  cases (List.range s.length).any (begN s n) <;> rfl
end Gp
set_option linter.unusedVariables false
set_option linter.unusedSimpArgs false
namespace Gp
open Gw Gq
theorem row_beg {s : List Tile} {n : Nat} {c : List Nat} (h : RowOK s (n + 1) c) : ∀ (m j : Nat), j + m = n → begN s m (c.getD j 0) = true
  | 0, j, e => rfl
  | m + 1, j, e => by
    rw [begN, List.any_eq_true]
    refine ⟨c.getD (j + 1) 0, List.mem_range.2 (h.lt _ (by omega)), ?_⟩
    rw [row_beg h m (j + 1) (by omega), Bool.true_and, beq_iff_eq]
    exact h.adj j (by omega)
theorem first_row {s : List Tile} {n : Nat} (hn : n + 1 ≤ 8) (h : (List.range s.length).any (begN s n) = false) : firstX s (n + 1) 1 e0 = (p0P, 6) := by
  have h2 : ¬ (firstX s (n + 1) 1 e0).2 = 0 := fun h0 => by
    obtain ⟨f, hf, _⟩ := (first_iff s e0 hn (by omega)).1 h0
    have hr := hf.row 0 (by omega)
    rw [List.any_eq_false] at h
    exact h ((f 0).getD 0 0) (List.mem_range.2 (hr.lt 0 (by omega))) (row_beg hr n 0 (by omega))
  revert h2
  unfold firstX
  cases greedy (allR s (n + 1)) (alB e0 (n + 1) 1) 1 1 none with
  | none => exact fun _ => rfl
  | some l => exact fun h2 => absurd rfl h2
theorem law04_StripRows_pure : ∀ (p0 : List Tile), ((∀ x ∈ p0, ok_Tile x) ∧ p0.length ≤ Go.maxLen) → ∃ k, law04_StripRows k p0 = some true := by
  intro s hs
  have hl : s.length ≤ 9223372036854775807 := hs.2
  refine ⟨2000000, ?_⟩
  have aw : law04_awake 2000000 = some true := awake04_ok 1998700
  unfold law04_StripRows
  by_cases h12 : (s.length : Int) > 12
  · rw [if_pos (decide_eq_true h12), Option.bind_some, if_pos rfl, aw]; rfl
  rw [if_neg (by simpa using h12), valid01 s (by omega) hl, Option.bind_some, Option.bind_some]
  cases hv : validT s
  · rw [if_pos (by simp), aw]; rfl
  rw [if_neg (by simp), rows_eq hv (by omega), Option.bind_some]
  unfold rowsX
  cases hf : firstNo (fun n => (List.range s.length).any (begN s n)) (s.length + 1) 0 with
  | none =>
    have hb := firstNo_none _ _ _ hf s.length (by omega) (by omega)
    have h13 : law04_some 2000000 s 13 = some ((List.range s.length).any (begN s 12)) := some_eq hv (n := 12) (by omega) (by omega)
    rw [beg_all s hb 12] at h13
    show (if ((6 : Int) == 6) = true then _ else _) = _
    rw [if_pos (by decide), h13, Option.bind_some, if_pos rfl, aw]; rfl
  | some n =>
    obtain ⟨-, h1, h2, h3⟩ := firstNo_some _ _ _ _ hf
    have hw : w64 ((n : Int) + 1) = ((n + 1 : Nat) : Int) := by rw [w64_id (by omega) (by omega)]; rfl
    have hsome := some_eq hv (n := n) (k := 2000000) (by omega) (by omega)
    show (if ((0 : Int) == 6) = true then _ else ((if ((((0 : Int) != 0) || decide ((n : Int) < 0)) || decide ((n : Int) > (s.length : Int))) = true then some true else ((if decide ((n : Int) > 0) = true then ((law04_some 2000000 s n).bind fun t => some (!t)) else some false)).bind fun x => some x)).bind fun x => (if x = true then some true else ((law04_some 2000000 s (w64 ((n : Int) + 1))).bind fun t => some t)).bind fun x => if x = true then some false else (if decide (w64 ((n : Int) + 1) > 8) = true then ((law04_awake 2000000).bind fun t => some t) else ((fill_First 2000000 s (w64 ((n : Int) + 1)) 1 e0).bind fun t => _))) = _
    have hfst : (if decide ((n : Int) > 0) = true then ((law04_some 2000000 s n).bind fun t => some (!t)) else some false) = some false := by
      cases n with
      | zero => rfl
      | succ m =>
        have := h3 m (by omega) (by omega)
        rw [if_pos (by simp), some_eq hv (by omega) (by omega), this]; rfl
    rw [if_neg (by decide), if_neg (by simp; omega), hfst, Option.bind_some, Option.bind_some, if_neg (by simp), hw, hsome, h2, Option.bind_some, Option.bind_some, if_neg (by simp)]
    by_cases h8 : n + 1 > 8
    · rw [if_pos (by simp; omega), aw]; rfl
    rw [if_neg (by simp; omega)]
    cases hfew : fewB s.length (n + 1)
    · obtain ⟨b1, b2, b3, b4⟩ := first_bad s ((n + 1 : Nat) : Int) 1 e0 hl (k := 2000000) (by omega)
      have hfx := b4 hv (by omega) (e0_sides _ _) hfew
      rw [hfx, Option.bind_some]
      show ((if ((4 : Int) == 6) = true then some true else (if ((4 : Int) == 4) = true then (ref02_Great 2000000 s ((n + 1 : Nat) : Int)).bind fun t => some t else some false).bind fun x => some x).bind fun x => (if x = true then ((law04_awake 2000000).bind fun t => some t) else some false).bind fun x => some x) = _
      rw [if_neg (by decide), if_pos (by decide), great_eq s (by omega) (by omega) (by omega), hfew, Option.bind_some, Option.bind_some, Option.bind_some, if_pos (by decide), aw]; rfl
    · have hfx := first_ok s (n + 1) 1 e0 hv (by omega) (by omega) (e0_sides _ _) hfew (k := 2000000) (by omega)
      rw [first_row (by omega) h2] at hfx
      have hfx : fill_First 2000000 s ((n + 1 : Nat) : Int) 1 e0 = some (p0P, 6) := hfx
      rw [hfx, Option.bind_some]
      show ((if ((6 : Int) == 6) = true then some true else _).bind fun x => (if x = true then ((law04_awake 2000000).bind fun t => some t) else some false).bind fun x => some x) = _
      rw [if_pos (by decide), Option.bind_some, if_pos rfl, aw]; rfl
end Gp
