/- The plain law: what the functions compute answers as the statement says. -/
import Derived.Test.YtjfmjfheeijfiaaDoorGp
import Derived.KernelRfl
set_option linter.unusedVariables false
set_option linter.unusedSimpArgs false
namespace Gq
open Go Gw Gp
/-! ### numbers and lists -/
theorem w64_id {n : Int} (h0 : -9223372036854775808 ≤ n) (h1 : n ≤ 9223372036854775807) : w64 n = n := by
  show IntKind.i64.wrap n = n
  have e : IntKind.i64.wrap n = if (true && decide (n % 18446744073709551616 ≥ 9223372036854775808)) = true then n % 18446744073709551616 - 18446744073709551616 else n % 18446744073709551616 := rfl
  rw [e]
  simp only [Bool.true_and, decide_eq_true_eq]
  split <;> omega
theorem rdD_nat {α : Type} (xs : List α) (i : Nat) (d : α) : rdD xs (i : Int) d = xs.getD i d := by simp [rdD]
theorem rdD_get {α : Type} {xs : List α} {i : Nat} (h : i < xs.length) (d : α) : rdD xs (i : Int) d = xs[i] := by
  simp [rdD, List.getD, List.getElem?_eq_getElem h]
def firstS {α β : Type} (g : Nat → α → Option β) : Nat → List α → Option β
  | _, [] => none
  | i, a :: r => match g i a with
    | some b => some b
    | none => firstS g (i + 1) r
def fin {β : Type} : Option β → Sum β Unit
  | some b => .inl b
  | none => .inr ()
theorem scan {α β : Type} {F : Nat → Int → Option (Sum β Unit)} {xs : List α} {g : Nat → α → Option β}
    (hF : ∀ k (i : Nat), i ≤ xs.length → F (k + 1) (i : Int) = if h : i < xs.length then (match g i xs[i] with | some b => some (.inl b) | none => F k ((i + 1 : Nat) : Int)) else some (.inr ())) :
    ∀ (n k i : Nat), i + n = xs.length → n < k → F k (i : Int) = some (fin (firstS g i (xs.drop i)))
  | 0, k, i, hi, hk => by
    obtain ⟨k, rfl⟩ : ∃ m, k = m + 1 := ⟨k - 1, by omega⟩
    have hi : i = xs.length := by omega
    subst hi
    rw [hF k _ (Nat.le_refl _), dif_neg (Nat.lt_irrefl _), List.drop_length]; rfl
  | n + 1, k, i, hi, hk => by
    obtain ⟨k, rfl⟩ : ∃ m, k = m + 1 := ⟨k - 1, by omega⟩
    have hlt : i < xs.length := by omega
    rw [hF k i (by omega), dif_pos hlt, List.drop_eq_getElem_cons hlt, firstS]
    cases hg : g i xs[i] with
    | some b => rfl
    | none => exact scan hF n k (i + 1) (by omega) (by omega)
end Gq
set_option linter.unusedVariables false
set_option linter.unusedSimpArgs false
namespace Gq
theorem flat_succ {α : Type} (f : Nat → List α) (n : Nat) : (List.range (n + 1)).flatMap f = (List.range n).flatMap f ++ f n := by
  rw [List.range_succ, List.flatMap_append]; simp
end Gq
namespace Gp
open Gw Gq
/-! ### the tiles of a machine -/
def hd (Y q s : Nat) : Int := ((Y + q * Y + s : Nat) : Int)
end Gp
set_option linter.unusedVariables false
set_option linter.unusedSimpArgs false
namespace Gq
theorem flat_get {α : Type} {f : Nat → List α} : ∀ {n q j : Nat} {t : α}, q < n → (f q)[j]? = some t → ((List.range n).flatMap f)[((List.range q).flatMap f).length + j]? = some t
  | 0, q, j, t, h, _ => by omega
  | n + 1, q, j, t, h, hj => by
    rw [flat_succ, List.getElem?_append]
    by_cases hq : q < n
    · have := flat_get (n := n) hq hj
      rw [if_pos (by by_cases hl : ((List.range q).flatMap f).length + j < ((List.range n).flatMap f).length
                     · exact hl
                     · rw [List.getElem?_eq_none (by omega)] at this; cases this)]
      exact this
    · have : q = n := by omega
      subst this
      rw [if_neg (by omega), show ((List.range q).flatMap f).length + j - ((List.range q).flatMap f).length = j by omega]; exact hj
theorem flat_len {α : Type} {f : Nat → List α} {b : Nat} (hf : ∀ i, (f i).length = b) : ∀ n, ((List.range n).flatMap f).length = n * b
  | 0 => by simp
  | n + 1 => by
    rw [flat_succ, List.length_append, Nat.add_mul, Nat.one_mul, flat_len hf n, hf n]
end Gq
namespace Gp
open Gw Gq
/-! ### where the tiles of a machine lie -/
end Gp
set_option linter.unusedVariables false
set_option linter.unusedSimpArgs false
namespace Gp
open Gw Gq
/-! ### the tile that shows a cell of a step -/
theorem Tile.ext' {a b : Tile} (h1 : a.N = b.N) (h2 : a.E = b.E) (h3 : a.S = b.S) (h4 : a.W = b.W) : a = b := by
  cases a; cases b; simp only at h1 h2 h3 h4; subst h1 h2 h3 h4; rfl
end Gp
set_option linter.unusedVariables false
set_option linter.unusedSimpArgs false
namespace Gq
theorem loop_all {σ ρ τ : Type} {F : Nat → Int → σ → Option (Sum ρ τ)} {S : Nat → σ} {b : Nat → Bool} {n K : Nat} {r : ρ} {e : τ} (hs : ∀ k i, K ≤ k → i < n → F (k + 1) (i : Int) (S i) = if b i = true then F k ((i + 1 : Nat) : Int) (S (i + 1)) else some (.inl r)) (he : ∀ k, F (k + 1) (n : Int) (S n) = some (.inr e)) :
    ∀ k, n + K < k → F k 0 (S 0) = some (if (List.range n).all b = true then .inr e else .inl r) := by
  have key : ∀ d i k, i + d = n → d + K < k → F k (i : Int) (S i) = some (if (List.range' i d).all b = true then .inr e else .inl r) := by
    intro d
    induction d with
    | zero =>
      intro i k hi hk
      obtain ⟨k, rfl⟩ : ∃ m, k = m + 1 := ⟨k - 1, by omega⟩
      have : i = n := by omega
      subst this; rw [he]; rfl
    | succ d ih =>
      intro i k hi hk
      obtain ⟨k, rfl⟩ : ∃ m, k = m + 1 := ⟨k - 1, by omega⟩
      rw [hs k i (by omega) (by omega), List.range'_succ, List.all_cons]
      cases hb : b i
      · rfl
      · rw [if_pos rfl, ih (i + 1) k (by omega) (by omega)]; rfl
  intro k hk
  rw [List.range_eq_range']
  exact key n 0 k (by omega) hk
theorem firstS_ge' {α : Type} {p : α → Bool} : ∀ (xs : List α) (i : Nat), (match firstS (fun i a => if p a = true then none else some (i : Int)) i xs with
    | some x => decide (0 ≤ x)
    | none => false) = !xs.all p
  | [], i => rfl
  | a :: r, i => by
    rw [firstS]
    cases h : p a
    · simp [h]
    · simp only [if_true, List.all_cons, h, Bool.true_and]
      exact firstS_ge' r (i + 1)
end Gq
namespace Gp
open Gw Gq
/-! ### sets of tiles and patterns -/
def inCol (c : Int) : Bool := decide (0 ≤ c ∧ c < 1000)
def colB (t : Tile) : Bool := inCol t.N && inCol t.E && inCol t.S && inCol t.W
theorem idx_col (xs : List Int) (hl : xs.length ≤ 1000000) (k : Nat) (hk : xs.length < k) :
    slices_IndexFunc_int_int_with_tile_colour_1.l0 k 0 xs = some (fin (firstS (fun i a => if inCol a = true then none else some (i : Int)) 0 xs)) := by
  have := scan (F := fun k i => slices_IndexFunc_int_int_with_tile_colour_1.l0 k i xs) (xs := xs) (g := fun i a => if inCol a = true then none else some (i : Int)) (fun k i hi => by
    show slices_IndexFunc_int_int_with_tile_colour_1.l0 (k + 1) i xs = _
    rw [slices_IndexFunc_int_int_with_tile_colour_1.l0]
    by_cases h : i < xs.length
    · have h' : (i : Int) < (xs.length : Int) := by omega
      have h2 : 0 ≤ (i : Int) ∧ (i : Int) < (xs.length : Int) := by omega
      rw [dif_pos h, if_pos (by simpa using h'), if_pos h2, rdD_get h, tile_colour_1, w64_id (by omega) (by omega)]
      by_cases hb : 0 ≤ xs[i] ∧ xs[i] < 1000
      · have h3 : ¬ (xs[i] < 0 ∨ 1000 ≤ xs[i]) := by omega
        simp [inCol, hb]
        intro hh; exact absurd hh h3
      · have h3 : (xs[i] < 0 ∨ 1000 ≤ xs[i]) := by omega
        simp [inCol, hb, h3]
    · have h' : ¬ (i : Int) < (xs.length : Int) := by omega
      rw [dif_neg h, if_neg (by simpa using h')]) xs.length k 0 (by simp) hk
  simpa using this
theorem colour_eq (xs : List Int) (hl : xs.length ≤ 1000000) (k : Nat) (hk : xs.length < k) : tile_colour k xs = some (xs.all inCol) := by
  unfold tile_colour slices_ContainsFunc_int_int_with_tile_colour_1 slices_IndexFunc_int_int_with_tile_colour_1
  rw [idx_col xs hl k hk]
  have := firstS_ge' (p := inCol) xs 0
  cases hf : firstS (fun i a => if inCol a = true then none else some (i : Int)) 0 xs <;> rw [hf] at this <;> cases ha : xs.all inCol <;> rw [ha] at this <;> simp [fin, sumb] at this ⊢
  · exact this
  · exact this
def metS (set : List Tile) (i : Nat) : List (Tile × Bool) := (set.take i).map fun t => (t, true)
theorem mget_met (t : Tile) : ∀ l : List Tile, mget t false (l.map fun t => (t, true)) = decide (t ∈ l)
  | [] => rfl
  | a :: r => by
    simp only [List.map_cons, mget]
    by_cases h : t = a
    · simp [h]
    · rw [if_neg h, mget_met t r]; simp [h]
theorem mput_met (t : Tile) : ∀ l : List Tile, t ∉ l → mput t true (l.map fun t => (t, true)) = (l.map fun t => (t, true)) ++ [(t, true)]
  | [], _ => rfl
  | a :: r, h => by
    simp only [List.mem_cons, not_or] at h
    simp only [List.map_cons, mput, if_neg h.1, mput_met t r h.2, List.cons_append]
def newB (set : List Tile) (i : Nat) : Bool := !decide (set.getD i z_Tile ∈ set.take i) && colB (set.getD i z_Tile)
def validT (set : List Tile) : Bool := decide (set.length ≤ 1000) && (List.range set.length).all (newB set)
theorem tile_valid (set : List Tile) {k : Nat} (hk : 1006 ≤ k) (hl : set.length ≤ 9223372036854775807) : tile_Valid k set = some (validT set) := by
  unfold tile_Valid validT
  by_cases hb : set.length ≤ 1000
  · rw [if_neg (by simp; omega)]
    have := loop_all (F := fun k i (m : List (Tile × Bool)) => tile_Valid.l0 k m i set) (S := metS set) (b := newB set) (n := set.length) (K := 5) (r := false) (e := ()) (fun k i hk hi => by
      show tile_Valid.l0 (k + 1) (metS set i) i set = if newB set i = true then tile_Valid.l0 k (metS set (i + 1)) ((i + 1 : Nat) : Int) set else _
      rw [tile_Valid.l0, if_pos (by simpa using hi), if_pos (by omega), rdD_nat, metS, mget_met]
      have ht : set.getD i z_Tile = set[i] := by simp [List.getElem?_eq_getElem hi]
      unfold newB
      by_cases hm : set.getD i z_Tile ∈ set.take i
      · rw [if_pos (by simpa using hm), show decide (set.getD i z_Tile ∈ set.take i) = true from decide_eq_true hm]; rfl
      · rw [if_neg (by simpa using hm), colour_eq _ (by simp) k (by simp; omega), Option.bind_some, Option.bind_some]
        have hc : ([(set.getD i z_Tile).N, (set.getD i z_Tile).E, (set.getD i z_Tile).S, (set.getD i z_Tile).W].all inCol) = colB (set.getD i z_Tile) := by simp [colB, Bool.and_assoc]
        rw [hc]
        cases hcb : colB (set.getD i z_Tile)
        · simp
        · rw [mput_met _ _ hm, w64_id (by omega) (by omega)]
          simp only [hm, Bool.not_true, Bool.false_eq_true, if_false, decide_false, Bool.not_false, Bool.and_self, if_true]
          unfold metS
          rw [List.take_add_one, List.map_append, List.getElem?_eq_getElem hi, ht]; rfl) (fun k => by
      show tile_Valid.l0 (k + 1) (metS set set.length) set.length set = _
      rw [tile_Valid.l0, if_neg (by simp)]) k (by omega)
    have h0 : tile_Valid.l0 k [] 0 set = some (if (List.range set.length).all (newB set) = true then .inr () else .inl false) := this
    rw [h0]
    cases (List.range set.length).all (newB set) <;> simp [sumb, hb]
  · rw [if_pos (by simp; omega)]; simp [hb]
def formB (p : Pattern) : Bool := decide (1 ≤ p.Width ∧ 1 ≤ p.Height ∧ p.Width ≤ 40000 ∧ p.Height ≤ 40000 ∧ p.Width * p.Height ≤ 40000 ∧ (p.Cells.length : Int) = p.Width * p.Height)
def inSet (n : Nat) (c : Int) : Bool := decide (0 ≤ c ∧ c < (n : Int))
def ofB (set : List Tile) (p : Pattern) : Bool := validT set && formB p && p.Cells.all (inSet set.length)
structure PForm (set : List Tile) (p : Pattern) (W H : Nat) : Prop where
  w : p.Width = W
  h : p.Height = H
  dW : 1 ≤ W ∧ W ≤ 40000
  dH : 1 ≤ H ∧ H ≤ 40000
  wh : H * W ≤ 40000
  len : p.Cells.length = H * W
  cel : ∀ j, j < H * W → 0 ≤ p.Cells.getD j 0 ∧ p.Cells.getD j 0 < (set.length : Int)
theorem place_lt {W H x y : Nat} (hx : x < W) (hy : y < H) : y * W + x < H * W := by
  have := Nat.mul_le_mul_right W (show y + 1 ≤ H by omega)
  rw [Nat.succ_mul] at this; omega
end Gp
set_option linter.unusedVariables false
set_option linter.unusedSimpArgs false
namespace Gp
open Gw Gq
/-! ### the pictures are patterns of the tiles -/
theorem PForm.of {set : List Tile} {p : Pattern} {W H : Nat} (f : PForm set p W H) (hv : validT set = true) : ofB set p = true := by
  unfold ofB formB
  have h1 := f.dW; have h2 := f.dH; have h3 := f.wh
  have e : p.Width * p.Height = ((H * W : Nat) : Int) := by rw [f.w, f.h, Int.natCast_mul, Int.mul_comm]
  rw [hv, e, f.w, f.h, f.len]
  simp only [Bool.true_and, Bool.and_eq_true, decide_eq_true_eq, List.all_eq_true]
  refine ⟨⟨by omega, by omega, by omega, by omega, by omega, trivial⟩, fun a ha => ?_⟩
  obtain ⟨j, hj, he⟩ := List.mem_iff_getElem.1 ha
  have := f.cel j (by rw [← f.len]; exact hj)
  rw [show p.Cells.getD j 0 = p.Cells[j] from by simp [List.getElem?_eq_getElem hj], he] at this
  unfold inSet; exact decide_eq_true this
end Gp
set_option linter.unusedVariables false
set_option linter.unusedSimpArgs false
namespace Gq
end Gq
namespace Gp
open Gw Gq
/-! ### the patterns of the statements' own reference -/
end Gp
set_option linter.unusedVariables false
set_option linter.unusedSimpArgs false
namespace Gp
open Gw Gq
end Gp
set_option linter.unusedVariables false
set_option linter.unusedSimpArgs false
namespace Gp
open Gw Gq
/-! ### a torus, repeated -/
end Gp
set_option linter.unusedVariables false
set_option linter.unusedSimpArgs false
namespace Gp
open Gw Gq
/-! ### the first layer's reference -/
theorem colour01 (c : Int) : ref01_colour c = some (inCol c) := by
  unfold ref01_colour inCol
  by_cases h : 0 ≤ c ∧ c < 1000
  · simp [h]
  · rw [decide_eq_false h]
    congr 1
    cases h1 : decide (c ≥ 0)
    · rfl
    · have : ¬ c < 1000 := fun h2 => h ⟨by simpa using h1, h2⟩
      simp [this]
theorem index01 {set : List Tile} (hl : set.length ≤ 1000000) (t : Tile) {k : Nat} (hk : set.length < k) : ∃ r : Int, ref01_Index k set t = some r ∧ decide (r ≥ 0) = decide (t ∈ set) := by
  have := scan (F := fun k i => ref01_Index.l0 k i set t) (xs := set) (g := fun i a => if a = t then some (i : Int) else none) (fun k i hi => by
    show ref01_Index.l0 (k + 1) i set t = _
    rw [ref01_Index.l0]
    by_cases h : i < set.length
    · have h2 : 0 ≤ (i : Int) ∧ (i : Int) < (set.length : Int) := by omega
      rw [dif_pos h, if_pos (by simpa using h), if_pos h2, rdD_get h, w64_id (by omega) (by omega)]
      by_cases hb : set[i] = t
      · subst hb; simp
      · have : ((set[i].N == t.N) && ((set[i].E == t.E) && ((set[i].S == t.S) && (set[i].W == t.W)))) = false := by
          cases hc : ((set[i].N == t.N) && ((set[i].E == t.E) && ((set[i].S == t.S) && (set[i].W == t.W))))
          · rfl
          · simp only [Bool.and_eq_true, beq_iff_eq] at hc
            exact absurd (Tile.ext' hc.1 hc.2.1 hc.2.2.1 hc.2.2.2) hb
        rw [this, if_neg hb]; rfl
    · rw [dif_neg h, if_neg (by simpa using h)]) set.length k 0 (by simp) hk
  have h0 : ref01_Index.l0 k 0 set t = some (fin (firstS (fun i a => if a = t then some (i : Int) else none) 0 (set.drop 0))) := this
  rw [List.drop_zero] at h0
  have key : ∀ (l : List Tile) (i : Nat), match firstS (fun i a => if a = t then some (i : Int) else none) i l with
      | some x => decide (x ≥ 0) = decide (t ∈ l)
      | none => decide (t ∈ l) = false := by
    intro l
    induction l with
    | nil => intro i; simp [firstS]
    | cons a r ih =>
      intro i
      rw [firstS]
      by_cases ha : a = t
      · subst ha; simp
      · have hne : ¬ t = a := fun e => ha e.symm
        rw [if_neg ha]
        have := ih (i + 1)
        cases hf : firstS (fun i a => if a = t then some (i : Int) else none) (i + 1) r with
        | none => rw [hf] at this; simp only [List.mem_cons, hne, false_or]; exact this
        | some x => rw [hf] at this; simp only [List.mem_cons, hne, false_or]; exact this
  unfold ref01_Index
  rw [h0]
  have hk2 := key set 0
  cases hf : firstS (fun i a => if a = t then some (i : Int) else none) 0 set with
  | none => rw [hf] at hk2; exact ⟨-1, rfl, by rw [hk2]; rfl⟩
  | some x => rw [hf] at hk2; exact ⟨x, rfl, hk2⟩
theorem valid01 (set : List Tile) {k : Nat} (hk : 2002 < k) (hl : set.length ≤ 9223372036854775807) : ref01_Valid k set = some (validT set) := by
  unfold ref01_Valid validT
  by_cases hb : set.length ≤ 1000
  · rw [if_neg (by simp; omega)]
    have := loop_all (F := fun k i (_ : Unit) => ref01_Valid.l0 k i set) (S := fun _ => ()) (b := newB set) (n := set.length) (K := 1001) (r := false) (e := ()) (fun k i hk hi => by
      show ref01_Valid.l0 (k + 1) i set = if newB set i = true then ref01_Valid.l0 k ((i + 1 : Nat) : Int) set else _
      have hcut : cut set (0 : Int) (i : Int) = set.take i := by unfold cut; simp
      obtain ⟨r, hr, hd⟩ := index01 (set := set.take i) (by rw [List.length_take]; omega) (set.getD i z_Tile) (k := k) (by rw [List.length_take]; omega)
      rw [ref01_Valid.l0, if_pos (by simpa using hi), if_pos (by omega)]
      simp only [rdD_nat, colour01, Option.bind_some, hcut]
      rw [if_pos (⟨by omega, by omega, by omega⟩ : 0 ≤ (0 : Int) ∧ (0 : Int) ≤ (i : Int) ∧ (i : Int) ≤ (set.length : Int)), hr, w64_id (by omega) (by omega)]
      simp only [Option.bind_some, hd]
      unfold newB colB
      cases inCol (set.getD i z_Tile).N
      · simp
      · cases inCol (set.getD i z_Tile).E
        · simp
        · cases inCol (set.getD i z_Tile).S
          · simp
          · cases inCol (set.getD i z_Tile).W
            · simp
            · cases decide (set.getD i z_Tile ∈ set.take i) <;> simp) (fun k => by
      show ref01_Valid.l0 (k + 1) set.length set = _
      rw [ref01_Valid.l0, if_neg (by simp)]) k (by omega)
    have h0 : ref01_Valid.l0 k 0 set = some (if (List.range set.length).all (newB set) = true then .inr () else .inl false) := this
    rw [h0]
    cases (List.range set.length).all (newB set) <;> simp [sumb, hb]
  · rw [if_pos (by simp; omega)]; simp [hb]
end Gp
set_option linter.unusedVariables false
set_option linter.unusedSimpArgs false
namespace Gp
open Gw Gq
/-! ### grids: lists of rows -/
def grid (w h : Nat) (g : Nat → Nat → Int) : List Int := (List.range h).flatMap fun y => (List.range w).map (g y)
theorem grid_len (w h : Nat) (g : Nat → Nat → Int) : (grid w h g).length = h * w := flat_len (f := fun y => (List.range w).map (g y)) (b := w) (fun y => by simp) h
theorem grid_get (w h : Nat) (g : Nat → Nat → Int) {x y : Nat} (hx : x < w) (hy : y < h) : (grid w h g).getD (y * w + x) 0 = g y x := by
  have := flat_get (f := fun y => (List.range w).map (g y)) (n := h) (q := y) (j := x) (t := g y x) hy (by simp [hx])
  have e : ((List.range y).flatMap fun y => (List.range w).map (g y)).length = y * w := grid_len w y g
  rw [e] at this
  unfold grid
  rw [List.getD_eq_getElem?_getD, this]; rfl
/-! ### stores into a list -/
def sets (l : List Int) (q : List (Nat × Int)) : List Int := q.foldl (fun l p => l.set p.1 p.2) l
/-! ### patterns that have the form of one -/
structure GForm (p : Pattern) (W H : Nat) : Prop where
  w : p.Width = W
  h : p.Height = H
  dW : 1 ≤ W ∧ W ≤ 40000
  dH : 1 ≤ H ∧ H ≤ 40000
  wh : H * W ≤ 40000
  len : p.Cells.length = H * W
theorem GForm.form {p : Pattern} {W H : Nat} (f : GForm p W H) : formB p = true := by
  have h1 := f.dW; have h2 := f.dH; have h3 := f.wh
  have e : p.Width * p.Height = ((H * W : Nat) : Int) := by rw [f.w, f.h, Int.natCast_mul, Int.mul_comm]
  unfold formB; rw [e, f.w, f.h, f.len]; exact decide_eq_true ⟨by omega, by omega, by omega, by omega, by omega, rfl⟩
theorem PForm.g {set : List Tile} {p : Pattern} {W H : Nat} (f : PForm set p W H) : GForm p W H := ⟨f.w, f.h, f.dW, f.dH, f.wh, f.len⟩
def cellG (p : Pattern) (W y x : Nat) : Int := p.Cells.getD (y * W + x) 0
theorem GForm.at {p : Pattern} {W H : Nat} (f : GForm p W H) {x y : Nat} (hx : x < W) (hy : y < H) : w64 (w64 ((y : Int) * (W : Int)) + (x : Int)) = ((y * W + x : Nat) : Int) ∧ (0 ≤ ((y * W + x : Nat) : Int) ∧ ((y * W + x : Nat) : Int) < (p.Cells.length : Int)) := by
  have hwh := f.wh
  have hp := place_lt hx hy
  refine ⟨?_, by omega, by rw [f.len]; omega⟩
  rw [← Int.natCast_mul, w64_id (n := ((y * W : Nat) : Int)) (by omega) (by omega), w64_id (by omega) (by omega)]; rfl
/-! ### the changed patterns -/
end Gp
set_option linter.unusedVariables false
set_option linter.unusedSimpArgs false
namespace Gp
open Gw Gq
/-! ### cuts -/
/-! ### patterns, repeated -/
/-! ### what is equal -/
end Gp
set_option linter.unusedVariables false
set_option linter.unusedSimpArgs false
namespace Gp
open Gw Gq
/-! ### changed sets -/
def upT (t : Tile) : Tile := ⟨t.S, t.E, t.N, t.W⟩
def turnT (t : Tile) : Tile := ⟨t.W, t.N, t.E, t.S⟩
structure Chg (f : Tile → Tile) : Prop where
  inj : ∀ a b, f a = f b → a = b
  col : ∀ t, colB (f t) = colB t
theorem chg_up : Chg upT := ⟨fun a b h => by cases a; cases b; simp only [upT, Tile.mk.injEq] at h; obtain ⟨rfl, rfl, rfl, rfl⟩ := h; rfl, fun t => by unfold colB upT; simp only; cases inCol t.N <;> cases inCol t.E <;> cases inCol t.S <;> cases inCol t.W <;> rfl⟩
theorem chg_turn : Chg turnT := ⟨fun a b h => by cases a; cases b; simp only [turnT, Tile.mk.injEq] at h; obtain ⟨rfl, rfl, rfl, rfl⟩ := h; rfl, fun t => by unfold colB turnT; simp only; cases inCol t.N <;> cases inCol t.E <;> cases inCol t.S <;> cases inCol t.W <;> rfl⟩
theorem getD_map (f : Tile → Tile) {s : List Tile} {i : Nat} (h : i < s.length) : (s.map f).getD i z_Tile = f (s.getD i z_Tile) := by simp [List.getElem?_eq_getElem h]
theorem Chg.valid {f : Tile → Tile} (c : Chg f) {s : List Tile} (hv : validT s = true) : validT (s.map f) = true := by
  unfold validT at hv ⊢
  simp only [Bool.and_eq_true, decide_eq_true_eq, List.all_eq_true, List.mem_range, List.length_map] at hv ⊢
  refine ⟨hv.1, fun i hi => ?_⟩
  have := hv.2 i hi
  unfold newB at this ⊢
  rw [getD_map f hi, ← List.map_take, c.col]
  simp only [Bool.and_eq_true, Bool.not_eq_true', decide_eq_false_iff_not] at this ⊢
  refine ⟨fun hm => this.1 ?_, this.2⟩
  obtain ⟨a, ha, he⟩ := List.mem_map.1 hm
  rw [← c.inj _ _ he]; exact ha
/-! ### how the tiles of a grid meet -/
def JP (W H : Nat) (round : Bool) (T : Nat → Nat → Tile) : Prop :=
  (∀ y x, y < H → x < W → (x + 1 < W ∨ round = true) → (T y x).E = (T y ((x + 1) % W)).W) ∧ (∀ y x, y < H → x < W → (y + 1 < H ∨ round = true) → (T y x).N = (T ((y + 1) % H) x).S)
theorem JP.congr {W H : Nat} {round : Bool} {T T' : Nat → Nat → Tile} (he : ∀ y x, y < H → x < W → T y x = T' y x) (h : JP W H round T) : JP W H round T' := by
  refine ⟨fun y x hy hx hr => ?_, fun y x hy hx hr => ?_⟩
  · rw [← he y x hy hx, ← he y _ hy (Nat.mod_lt _ (by omega))]; exact h.1 y x hy hx hr
  · rw [← he y x hy hx, ← he _ x (Nat.mod_lt _ (by omega)) hx]; exact h.2 y x hy hx hr
def GP (W H : Nat) (c : Nat → Nat → Int) : Pattern := ⟨W, H, grid W H c⟩
def TT (s : List Tile) (c : Nat → Nat → Int) (y x : Nat) : Tile := s.getD (c y x).toNat z_Tile
structure GOK (s : List Tile) (W H : Nat) (c : Nat → Nat → Int) (whole : Bool) : Prop where
  valid : validT s = true
  dW : 1 ≤ W ∧ W ≤ 40000
  dH : 1 ≤ H ∧ H ≤ 40000
  wh : H * W ≤ 40000
  cel : ∀ y x, y < H → x < W → 0 ≤ c y x ∧ c y x < (s.length : Int)
  fits : JP W H false (TT s c)
  round : whole = true ↔ JP W H true (TT s c)
theorem valid_len {s : List Tile} (hv : validT s = true) : s.length ≤ 1000 := by unfold validT at hv; simp only [Bool.and_eq_true, decide_eq_true_eq] at hv; exact hv.1
theorem GOK.congr {s : List Tile} {W H : Nat} {c c' : Nat → Nat → Int} {whole : Bool} (g : GOK s W H c whole) (he : ∀ y x, y < H → x < W → c y x = c' y x) : GOK s W H c' whole := by
  have ht : ∀ y x, y < H → x < W → TT s c y x = TT s c' y x := fun y x hy hx => by unfold TT; rw [he y x hy hx]
  exact ⟨g.valid, g.dW, g.dH, g.wh, fun y x hy hx => by rw [← he y x hy hx]; exact g.cel y x hy hx, g.fits.congr ht, g.round.trans ⟨fun h => h.congr ht, fun h => h.congr (fun y x hy hx => (ht y x hy hx).symm)⟩⟩
theorem TT_map {f : Tile → Tile} {s : List Tile} {c : Nat → Nat → Int} {y x : Nat} (h : 0 ≤ c y x ∧ c y x < (s.length : Int)) : TT (s.map f) c y x = f (TT s c y x) := by
  unfold TT
  rw [getD_map f (by omega)]
/-! mirrored -/
theorem mod_back {W x : Nat} (hx : x < W) : (W - 1 - (x + 1) % W + 1) % W = W - 1 - x ∧ W - 1 - (x + 1) % W < W ∧ (x + 1 < W → W - 1 - (x + 1) % W + 1 < W) := by
  by_cases h : x + 1 < W
  · rw [Nat.mod_eq_of_lt h, show W - 1 - (x + 1) + 1 = W - 1 - x by omega, Nat.mod_eq_of_lt (by omega)]; omega
  · have e : x + 1 = W := by omega
    rw [e, Nat.mod_self, show W - 1 - 0 + 1 = W by omega, Nat.mod_self]; omega
theorem JP.up {W H : Nat} {round : Bool} {T : Nat → Nat → Tile} (h : JP W H round T) : JP W H round (fun y x => upT (T (H - 1 - y) x)) := by
  refine ⟨fun y x hy hx hr => ?_, fun y x hy hx hr => ?_⟩
  · exact h.1 (H - 1 - y) x (by omega) hx hr
  · obtain ⟨e, hlt, hi⟩ := mod_back hy
    have := h.2 (H - 1 - (y + 1) % H) x hlt hx (hr.imp hi id)
    rw [e] at this
    exact this.symm
theorem JP.turn {W H : Nat} {round : Bool} {T : Nat → Nat → Tile} (h : JP W H round T) : JP H W round (fun y x => turnT (T x (W - 1 - y))) := by
  refine ⟨fun y x hy hx hr => ?_, fun y x hy hx hr => ?_⟩
  · exact h.2 x (W - 1 - y) hx (by omega) hr
  · obtain ⟨e, hlt, hi⟩ := mod_back hy
    have := h.1 x (W - 1 - (y + 1) % W) hx hlt (hr.imp hi id)
    rw [e] at this
    exact this.symm
theorem GOK.up {s : List Tile} {W H : Nat} {c : Nat → Nat → Int} {whole : Bool} (g : GOK s W H c whole) : GOK (s.map upT) W H (fun y x => c (H - 1 - y) x) whole := by
  have hdH := g.dH
  have ht : ∀ y x, y < H → x < W → upT (TT s c (H - 1 - y) x) = TT (s.map upT) (fun y x => c (H - 1 - y) x) y x := fun y x hy hx => by
    exact (TT_map (f := upT) (c := fun y x => c (H - 1 - y) x) (y := y) (x := x) (g.cel (H - 1 - y) x (by omega) hx)).symm
  refine ⟨chg_up.valid g.valid, g.dW, g.dH, g.wh, fun y x hy hx => by rw [List.length_map]; exact g.cel _ x (by omega) hx, g.fits.up.congr ht, ?_⟩
  rw [g.round]
  constructor
  · exact fun h => h.up.congr ht
  · intro h
    have := (h.congr (fun y x hy hx => (ht y x hy hx).symm)).up
    exact this.congr fun y x hy hx => by
      rw [show H - 1 - (H - 1 - y) = y by omega]; rfl
theorem GOK.turn {s : List Tile} {W H : Nat} {c : Nat → Nat → Int} {whole : Bool} (g : GOK s W H c whole) : GOK (s.map turnT) H W (fun y x => c x (W - 1 - y)) whole := by
  have hdW := g.dW; have hdH := g.dH
  have ht : ∀ y x, y < W → x < H → turnT (TT s c x (W - 1 - y)) = TT (s.map turnT) (fun y x => c x (W - 1 - y)) y x := fun y x hy hx => by
    exact (TT_map (f := turnT) (c := fun y x => c x (W - 1 - y)) (y := y) (x := x) (g.cel x (W - 1 - y) hx (by omega))).symm
  refine ⟨chg_turn.valid g.valid, g.dH, g.dW, by rw [Nat.mul_comm]; exact g.wh, fun y x hy hx => by rw [List.length_map]; exact g.cel x _ hx (by omega), g.fits.turn.congr ht, ?_⟩
  rw [g.round]
  constructor
  · exact fun h => h.turn.congr ht
  · intro h
    have := (h.congr (fun y x hy hx => (ht y x hy hx).symm)).turn.turn.turn
    exact this.congr fun y x hy hx => by
      rw [show H - 1 - (H - 1 - y) = y by omega, show W - 1 - (W - 1 - x) = x by omega]; rfl
theorem GP.g {W H : Nat} {c : Nat → Nat → Int} (dW : 1 ≤ W ∧ W ≤ 40000) (dH : 1 ≤ H ∧ H ≤ 40000) (wh : H * W ≤ 40000) : GForm (GP W H c) W H := ⟨rfl, rfl, dW, dH, wh, grid_len W H c⟩
theorem GP.cell {W H : Nat} (c : Nat → Nat → Int) {y x : Nat} (hy : y < H) (hx : x < W) : cellG (GP W H c) W y x = c y x := grid_get W H c hx hy
end Gp
set_option linter.unusedVariables false
set_option linter.unusedSimpArgs false
namespace Gp
open Gw Gq
end Gp
set_option linter.unusedVariables false
set_option linter.unusedSimpArgs false
namespace Gq
theorem loop_list {α σ τ : Type} {F : Nat → Int → σ → Option τ} (xs : List α) (step : σ → α → σ) (K : Nat) (P : Nat → σ → Prop) (fin : σ → τ)
    (hs : ∀ k i s (h : i < xs.length), K ≤ k → P i s → F (k + 1) (i : Int) s = F k ((i + 1 : Nat) : Int) (step s xs[i]) ∧ P (i + 1) (step s xs[i])) (he : ∀ k s, P xs.length s → F (k + 1) (xs.length : Int) s = some (fin s)) :
    ∀ (s0 : σ), P 0 s0 → ∀ k, xs.length + K < k → F k 0 s0 = some (fin (xs.foldl step s0)) := by
  have key : ∀ d i s k, i + d = xs.length → P i s → d + K < k → F k (i : Int) s = some (fin ((xs.drop i).foldl step s)) := by
    intro d
    induction d with
    | zero =>
      intro i s k hi hp hk
      obtain ⟨k, rfl⟩ : ∃ m, k = m + 1 := ⟨k - 1, by omega⟩
      have : i = xs.length := by omega
      subst this
      rw [he k s hp, List.drop_length]; rfl
    | succ d ih =>
      intro i s k hi hp hk
      obtain ⟨k, rfl⟩ : ∃ m, k = m + 1 := ⟨k - 1, by omega⟩
      have hlt : i < xs.length := by omega
      obtain ⟨h1, h2⟩ := hs k i s hlt (by omega) hp
      rw [h1, ih (i + 1) _ k (by omega) h2 (by omega), List.drop_eq_getElem_cons hlt]; rfl
  intro s0 h0 k hk
  have := key xs.length 0 s0 k (by omega) h0 hk
  simpa using this
end Gq
namespace Gp
open Gw Gq
/-! ### words, rows -/
def tat (set : List Tile) (i : Nat) : Tile := set.getD i z_Tile
def cz (c : List Nat) : List Int := c.map fun (i : Nat) => (i : Int)
def wordOf (l : List Int) : A8_Int := ⟨l.getD 0 0, l.getD 1 0, l.getD 2 0, l.getD 3 0, l.getD 4 0, l.getD 5 0, l.getD 6 0, l.getD 7 0⟩
def mkR (set : List Tile) (c : List Nat) : Row := ⟨cz c, wordOf (c.map fun i => (tat set i).S), wordOf (c.map fun i => (tat set i).N), (tat set (c.headD 0)).W, (tat set (c.getLastD 0)).E⟩
def follows (set : List Tile) (c : List Nat) (i : Nat) : Bool := match c.getLast? with
  | none => true
  | some j => (tat set j).E == (tat set i).W
def rowsL (set : List Tile) : Nat → List Nat → List (List Nat)
  | 0, c => [c]
  | n + 1, c => ((List.range set.length).filter (follows set c)).flatMap fun i => rowsL set n (c ++ [i])
theorem wordOf_get (l : List Int) (i : Nat) (hi : i < 8) : (wordOf l).get i = l.getD i 0 := by
  have : i = 0 ∨ i = 1 ∨ i = 2 ∨ i = 3 ∨ i = 4 ∨ i = 5 ∨ i = 6 ∨ i = 7 := by omega
  rcases this with rfl | rfl | rfl | rfl | rfl | rfl | rfl | rfl <;> rfl
theorem wordOf_inj {a b : List Int} (ha : a.length ≤ 8) (h : a.length = b.length) : wordOf a = wordOf b ↔ a = b := by
  constructor
  · intro e
    apply List.ext_getElem? 
    intro i
    by_cases hi : i < a.length
    · have h1 := wordOf_get a i (by omega)
      have h2 := wordOf_get b i (by omega)
      rw [e, h2] at h1
      rw [List.getElem?_eq_getElem hi, List.getElem?_eq_getElem (by omega)]
      simp only [List.getD, List.getElem?_eq_getElem hi, List.getElem?_eq_getElem (show i < b.length by omega), Option.getD_some] at h1
      rw [h1]
    · rw [List.getElem?_eq_none (by omega), List.getElem?_eq_none (by omega)]
  · intro e; rw [e]
theorem wordOf_set (l : List Int) (v : Int) (hl : l.length < 8) : (wordOf l).set l.length v = wordOf (l ++ [v]) := by
  have : l.length = 0 ∨ l.length = 1 ∨ l.length = 2 ∨ l.length = 3 ∨ l.length = 4 ∨ l.length = 5 ∨ l.length = 6 ∨ l.length = 7 := by omega
  match l, this with
  | [], _ => rfl
  | [a], _ => rfl
  | [a, b], _ => rfl
  | [a, b, c], _ => rfl
  | [a, b, c, d], _ => rfl
  | [a, b, c, d, e], _ => rfl
  | [a, b, c, d, e, f], _ => rfl
  | [a, b, c, d, e, f, g], _ => rfl
  | _ :: _ :: _ :: _ :: _ :: _ :: _ :: _ :: l, h => simp at h
theorem rowOf_l0 (set : List Tile) (c : List Nat) (hc : ∀ i ∈ c, i < set.length) (h8 : c.length ≤ 8) {k : Nat} (hk : c.length < k) :
    rows_rowOf.l0 k (A8_Int.mk 0 0 0 0 0 0 0 0) (A8_Int.mk 0 0 0 0 0 0 0 0) 0 set (cz c) = some (wordOf (c.map fun i => (tat set i).S), wordOf (c.map fun i => (tat set i).N)) := by
  have key : ∀ d i k, i + d = c.length → d < k → rows_rowOf.l0 k (wordOf ((c.take i).map fun i => (tat set i).S)) (wordOf ((c.take i).map fun i => (tat set i).N)) (i : Int) set (cz c) = some (wordOf (c.map fun i => (tat set i).S), wordOf (c.map fun i => (tat set i).N)) := by
    intro d
    induction d with
    | zero =>
      intro i k hi hk
      obtain ⟨k, rfl⟩ : ∃ m, k = m + 1 := ⟨k - 1, by omega⟩
      have : i = c.length := by omega
      subst this
      rw [rows_rowOf.l0, if_neg (by simp [cz]), List.take_length]
    | succ d ih =>
      intro i k hi hk
      obtain ⟨k, rfl⟩ : ∃ m, k = m + 1 := ⟨k - 1, by omega⟩
      have hlt : i < c.length := by omega
      have hci := hc c[i] (List.getElem_mem _)
      have hz : rdD (cz c) (i : Int) 0 = ((c[i] : Nat) : Int) := by rw [rdD_get (by simpa [cz] using hlt)]; simp [cz]
      rw [rows_rowOf.l0, if_pos (by simp [cz]; omega), if_pos (by simp [cz]; omega), hz, if_pos (by omega), if_pos (by omega), w64_id (by omega) (by omega), rdD_nat]
      have e1 := wordOf_set ((c.take i).map fun i => (tat set i).S) (tat set c[i]).S (by simp; omega)
      have e2 := wordOf_set ((c.take i).map fun i => (tat set i).N) (tat set c[i]).N (by simp; omega)
      have hlen : ((c.take i).map fun i => (tat set i).S).length = i := by simp; omega
      have hlen2 : ((c.take i).map fun i => (tat set i).N).length = i := by simp; omega
      rw [hlen] at e1; rw [hlen2] at e2
      have ht : c.take (i + 1) = c.take i ++ [c[i]] := by rw [List.take_add_one, List.getElem?_eq_getElem hlt]; rfl
      show rows_rowOf.l0 k (A8_Int.set _ i (tat set c[i]).S) (A8_Int.set _ i (tat set c[i]).N) _ set (cz c) = _
      rw [e1, e2]
      have := ih (i + 1) k (by omega) (by omega)
      rw [ht, List.map_append, List.map_append] at this
      exact this
  exact key c.length 0 k (by omega) hk
theorem rowOf_eq (set : List Tile) (c : List Nat) (hc : ∀ i ∈ c, i < set.length) (h8 : c.length ≤ 8) (h1 : 1 ≤ c.length) {k : Nat} (hk : c.length < k) : rows_rowOf k set (cz c) = some (mkR set c) := by
  have hl : (cz c).length = c.length := by simp [cz]
  have h0 : rdD (cz c) (0 : Int) 0 = ((c.headD 0 : Nat) : Int) := by
    cases c with
    | nil => simp at h1
    | cons a r => rfl
  have hn : c ≠ [] := by intro e; rw [e] at h1; simp at h1
  have hh : c.headD 0 < set.length := by
    cases c with
    | nil => simp at h1
    | cons a r => exact hc a (by simp)
  have hlast : c.getLastD 0 < set.length := by
    rw [List.getLastD_eq_getLast?, List.getLast?_eq_some_getLast hn]; exact hc _ (List.getLast_mem hn)
  have hw : w64 (((cz c).length : Int) - 1) = ((c.length - 1 : Nat) : Int) := by rw [hl, w64_id (by omega) (by omega)]; omega
  have hz : rdD (cz c) (((c.length - 1 : Nat) : Int)) 0 = ((c.getLastD 0 : Nat) : Int) := by
    rw [rdD_get (by rw [hl]; omega)]
    rw [List.getLastD_eq_getLast?, List.getLast?_eq_some_getLast hn, Option.getD_some, List.getLast_eq_getElem]
    simp [cz]
  unfold rows_rowOf
  rw [rowOf_l0 set c hc h8 hk, hw, hz, h0, if_pos (by simp [cz]; omega), Option.bind_some, if_pos (by rw [hl]; omega), if_pos (by omega), if_pos (by rw [hl]; omega), if_pos (by omega), rdD_nat, rdD_nat]
  rfl
theorem all1 (set : List Tile) (w : Nat) (h1 : 1 ≤ w) (h8 : w ≤ 8) (hl : set.length ≤ 1000000) : ∀ (n x : Nat) (c : List Nat) (out : List Row) (cells : List Int) (k : Nat), x + n = w → c.length = x → (∀ i ∈ c, i < set.length) → cells.length = w → cells.take x = cz c →
    out.length + (rowsL set n c).length ≤ 100000000000 → n + set.length + 10 < k → ∃ cells', rows_All_1 k (x : Int) (w : Int) out set cells = some (out ++ (rowsL set n c).map (mkR set), cells') ∧ cells'.length = w ∧ cells'.take x = cz c := by
  intro n
  induction n with
  | zero =>
    intro x c out cells k hx hc hcs hcl hct hb hk
    obtain ⟨k, rfl⟩ : ∃ m, k = m + 1 := ⟨k - 1, by omega⟩
    have hxw : x = w := by omega
    subst hxw
    have he : cells = cz c := by rw [← hct, ← hcl, List.take_length]
    refine ⟨cells, ?_, hcl, hct⟩
    rw [rows_All_1, if_pos (by simp), he, rowOf_eq set c hcs (by omega) (by omega) (by omega), Option.bind_some, if_pos (by simp [rowsL] at hb; omega)]
    rfl
  | succ n ih =>
    intro x c out cells k hx hc hcs hcl hct hb hk
    obtain ⟨k, rfl⟩ : ∃ m, k = m + 1 := ⟨k - 1, by omega⟩
    have key : ∀ d i k' (out : List Row) (cells : List Int), i + d = set.length → d < k' → cells.length = w → cells.take x = cz c → out.length + (((List.range' i d).filter (follows set c)).flatMap fun i => rowsL set n (c ++ [i])).length ≤ 100000000000 →
        ∃ cells', rows_All_1.l0 k' out cells (i : Int) (x : Int) (w : Int) set (rows_All_1 k) = some (out ++ (((List.range' i d).filter (follows set c)).flatMap fun i => rowsL set n (c ++ [i])).map (mkR set), cells') ∧ cells'.length = w ∧ cells'.take x = cz c := by
      intro d
      induction d with
      | zero =>
        intro i k' out cells hi hk' hcl hct hb
        obtain ⟨k', rfl⟩ : ∃ m, k' = m + 1 := ⟨k' - 1, by omega⟩
        have : i = set.length := by omega
        subst this
        refine ⟨cells, ?_, hcl, hct⟩
        rw [rows_All_1.l0, if_neg (by simp)]; simp
      | succ d ihd =>
        intro i k' out cells hi hk' hcl hct hb
        obtain ⟨k', rfl⟩ : ∃ m, k' = m + 1 := ⟨k' - 1, by omega⟩
        have hlt : i < set.length := by omega
        have hcond : (if ((x : Int) == 0) = true then (some true) else (if 0 ≤ w64 ((x : Int) - 1) ∧ w64 ((x : Int) - 1) < (cells.length : Int) then (if 0 ≤ (rdD cells (w64 ((x : Int) - 1)) 0) ∧ (rdD cells (w64 ((x : Int) - 1)) 0) < (set.length : Int) then (some (((rdD set (rdD cells (w64 ((x : Int) - 1)) 0) z_Tile).E) == ((rdD set (i : Int) z_Tile).W))) else none) else none)) = some (follows set c i) := by
          by_cases h0 : x = 0
          · subst h0
            have : c = [] := List.eq_nil_of_length_eq_zero hc
            subst this
            rfl
          · have hn : c ≠ [] := by intro e; rw [e] at hc; simp at hc; omega
            have hw : w64 ((x : Int) - 1) = ((x - 1 : Nat) : Int) := by rw [w64_id (by omega) (by omega)]; omega
            have hz : rdD cells (((x - 1 : Nat) : Int)) 0 = ((c.getLast hn : Nat) : Int) := by
              rw [rdD_get (by omega)]
              have : cells[x - 1]'(by omega) = (cells.take x)[x - 1]'(by simp; omega) := by simp
              rw [this]
              simp only [hct, List.getLast_eq_getElem]
              simp [cz, hc]
            have hm := hcs _ (List.getLast_mem hn)
            rw [if_neg (by simp; omega), hw, if_pos (by omega), hz, if_pos (by omega), rdD_nat, rdD_nat]
            unfold follows
            rw [List.getLast?_eq_some_getLast hn]; rfl
        have hwi : w64 ((i : Int) + 1) = ((i + 1 : Nat) : Int) := by rw [w64_id (by omega) (by omega)]; rfl
        rw [rows_All_1.l0, if_pos (by simpa using hlt), if_pos (by omega), hcond, Option.bind_some, hwi]
        rw [List.range'_succ, List.filter_cons] at hb ⊢
        cases hf : follows set c i
        · rw [hf] at hb
          simp only [Bool.false_eq_true, if_false] at hb ⊢
          rw [Option.bind_some]
          exact ihd (i + 1) k' out cells (by omega) (by omega) hcl hct hb
        · rw [hf] at hb
          simp only [if_true, List.flatMap_cons, List.length_append] at hb ⊢
          have hset : (cells.set x (i : Int)).take (x + 1) = cz (c ++ [i]) := by
            rw [List.take_add_one, List.take_set_of_le (Nat.le_refl _), hct, List.getElem?_set_self (by omega)]
            simp [cz]
          have hw1 : w64 ((x : Int) + 1) = ((x + 1 : Nat) : Int) := by rw [w64_id (by omega) (by omega)]; rfl
          obtain ⟨cells1, e1, l1, t1⟩ := ih (x + 1) (c ++ [i]) out (cells.set x (i : Int)) k (by omega) (by simp [hc]) (fun j hj => by
            rcases List.mem_append.1 hj with hj | hj
            · exact hcs j hj
            · simp at hj; omega) (by simp [hcl]) hset (by omega) (by omega)
          have t1' : cells1.take x = cz c := by
            have : cells1.take x = (cells1.take (x + 1)).take x := by rw [List.take_take, Nat.min_eq_left (by omega)]
            rw [this, t1]
            simp [cz, ← hc]
          obtain ⟨cells2, e2, l2, t2⟩ := ihd (i + 1) k' (out ++ (rowsL set n (c ++ [i])).map (mkR set)) cells1 (by omega) (by omega) l1 t1' (by simp only [List.length_append, List.length_map]; omega)
          refine ⟨cells2, ?_, l2, t2⟩
          rw [if_pos (by omega), hw1]
          simp only [Int.toNat_natCast]
          rw [e1, Option.bind_some, Option.bind_some]
          show rows_All_1.l0 k' _ cells1 ((i + 1 : Nat) : Int) _ _ _ _ = _
          rw [e2, List.map_append, List.append_assoc]
    rw [rowsL] at hb
    rw [List.range_eq_range'] at hb
    obtain ⟨cells', e, l, t⟩ := key set.length 0 k out cells (by omega) (by omega) hcl hct hb
    refine ⟨cells', ?_, l, t⟩
    rw [rows_All_1, if_neg (by simp; omega)]
    have e' : rows_All_1.l0 k out cells 0 (x : Int) (w : Int) set (rows_All_1 k) = _ := e
    rw [e', Option.bind_some, rowsL, List.range_eq_range']
theorem rowsL_len (set : List Tile) : ∀ (n : Nat) (c : List Nat), (rowsL set n c).length ≤ set.length ^ n
  | 0, c => by simp [rowsL]
  | n + 1, c => by
    rw [rowsL, List.length_flatMap]
    have : ∀ l : List Nat, (l.map fun i => (rowsL set n (c ++ [i])).length).sum ≤ l.length * set.length ^ n := by
      intro l
      induction l with
      | nil => simp
      | cons a r ih =>
        simp only [List.map_cons, List.sum_cons, List.length_cons]
        have := rowsL_len set n (c ++ [a])
        rw [Nat.add_mul]; omega
    refine Nat.le_trans (this _) ?_
    have h2 : ((List.range set.length).filter (follows set c)).length ≤ set.length := by
      have := List.length_filter_le (follows set c) (List.range set.length); simpa using this
    rw [Nat.pow_succ, Nat.mul_comm (set.length ^ n)]
    exact Nat.mul_le_mul_right _ h2
def allR (set : List Tile) (w : Nat) : List Row := (rowsL set w []).map (mkR set)
theorem all_eq (set : List Tile) (w : Nat) (h1 : 1 ≤ w) (h8 : w ≤ 8) (hl : set.length ≤ 1000000) (hf : set.length ^ w ≤ 100000000000) {k : Nat} (hk : set.length + 20 < k) : rows_All k set (w : Int) = some (allR set w) := by
  have hb := rowsL_len set w []
  obtain ⟨cells, e, _, _⟩ := all1 set w h1 h8 hl w 0 [] [] (List.replicate w 0) k (by omega) rfl (fun i h => by cases h) (by simp) (by simp [cz]) (by simp; omega) (by omega)
  unfold rows_All
  have e' : rows_All_1 k 0 (w : Int) [] set (List.replicate w 0) = _ := e
  rw [if_pos (by omega), Int.toNat_natCast, e']; rfl
/-! few -/
def fewB (n w : Nat) : Bool := decide ((max n 1) ^ w ≤ 5000)
theorem few_eq (set : List Tile) (w : Nat) (hw : w ≤ 1000) (hl : set.length ≤ 1000000) {k : Nat} (hk : w < k) : rows_Few k set (w : Int) = some (fewB set.length w) := by
  have hm : maxI (set.length : Int) 1 = ((max set.length 1 : Nat) : Int) := by unfold maxI; split <;> omega
  obtain ⟨m, hmd⟩ : ∃ m, max set.length 1 = m := ⟨_, rfl⟩
  have hm1 : 1 ≤ m := by omega
  have hm2 : m ≤ 1000000 := by omega
  have key : ∀ d i k, i + d = w → d < k → m ^ i ≤ 5000 → rows_Few.l0 k ((m ^ i : Nat) : Int) (i : Int) set (w : Int) = some (if m ^ w ≤ 5000 then .inr () else .inl false) := by
    intro d
    induction d with
    | zero =>
      intro i k hi hk hp
      obtain ⟨k, rfl⟩ : ∃ m, k = m + 1 := ⟨k - 1, by omega⟩
      have : i = w := by omega
      subst this
      rw [rows_Few.l0, if_neg (by simp), if_pos hp]
    | succ d ih =>
      intro i k hi hk hp
      obtain ⟨k, rfl⟩ : ∃ m, k = m + 1 := ⟨k - 1, by omega⟩
      have hpp : m ^ i * m ≤ 5000 * 1000000 := Nat.mul_le_mul hp hm2
      have e : w64 (((m ^ i : Nat) : Int) * maxI (set.length : Int) 1) = ((m ^ (i + 1) : Nat) : Int) := by
        rw [hm, hmd, ← Int.natCast_mul, Nat.pow_succ, w64_id (by omega) (by omega)]
      have hle : m ^ (i + 1) ≤ m ^ w := Nat.pow_le_pow_right hm1 (by omega)
      obtain ⟨q, hq⟩ : ∃ q, m ^ (i + 1) = q := ⟨_, rfl⟩
      rw [rows_Few.l0, if_pos (by simp; omega), e]
      have hwi : w64 ((i : Int) + 1) = ((i + 1 : Nat) : Int) := by rw [w64_id (by omega) (by omega)]; rfl
      by_cases h5 : q ≤ 5000
      · rw [if_neg (by rw [hq]; simp; omega), hwi]
        exact ih (i + 1) k (by omega) (by omega) (by rw [hq]; exact h5)
      · rw [if_pos (by rw [hq]; simp; omega), if_neg]
        intro hw5
        omega
  have := key w 0 k (by omega) hk (by simp)
  have h0 : rows_Few.l0 k 1 0 set (w : Int) = _ := this
  unfold rows_Few fewB
  rw [h0, hmd]
  by_cases h5 : m ^ w ≤ 5000
  · rw [if_pos h5]; simp [sumb, h5]
  · rw [if_neg h5]; simp [sumb, h5]
end Gp
set_option linter.unusedVariables false
set_option linter.unusedSimpArgs false
namespace Gq
open Gw
theorem mget_mput {κ ν : Type} [DecidableEq κ] (x y : κ) (z v : ν) : ∀ l : List (κ × ν), mget x z (mput y v l) = if x = y then v else mget x z l
  | [] => by simp [mput, mget]
  | p :: r => by
    simp only [mput]
    by_cases h : y = p.1
    · rw [if_pos h]
      simp only [mget]
      by_cases hx : x = y
      · rw [if_pos hx, if_pos hx]
      · rw [if_neg hx, if_neg hx, if_neg (fun e => hx (e.trans h.symm))]
    · rw [if_neg h]
      simp only [mget]
      by_cases hx : x = p.1
      · rw [if_pos hx, if_pos hx, if_neg (fun e => h (e.symm.trans hx))]
      · rw [if_neg hx, if_neg hx]; exact mget_mput x y z v r
end Gq
namespace Gp
open Gw Gq
/-! ### rectangles that are filled -/
def atB (l : List Int) (i : Nat) (c : Int) : Bool := decide (l.length = 0) || l.getD i 0 == c
theorem at_eq' (l : List Int) (i : Nat) (c : Int) (h : l.length = 0 ∨ i < l.length) : fill_at l (i : Int) c = some (atB l i c) := by
  unfold fill_at atB
  by_cases h0 : l.length = 0
  · rw [if_pos (by simp [h0])]; simp [h0]
  · rw [if_neg (by simp; simpa using h0), if_pos (by omega), rdD_nat]; simp [h0]
structure EdgeOK (e : Edges) (w h : Nat) : Prop where
  n : e.North.length = 0 ∨ e.North.length = w
  s : e.South.length = 0 ∨ e.South.length = w
  ea : e.East.length = 0 ∨ e.East.length = h
  we : e.West.length = 0 ∨ e.West.length = h
def colE (e : Edges) (h : Nat) (r : Row) (y x : Nat) : Bool := (!(decide (y = 0)) || atB e.South x (r.South.get x)) && (!(decide (y + 1 = h)) || atB e.North x (r.North.get x))
def alB (e : Edges) (w h : Nat) (r : Row) (y : Nat) : Bool := atB e.West y r.West && atB e.East y r.East && (List.range w).all (colE e h r y)
theorem allows_eq {e : Edges} {w h : Nat} (he : EdgeOK e w h) (hw : w ≤ 8) (hh : h ≤ 1000) (R : List Row) (r : Row) {y : Nat} (hy : y < h) {k : Nat} (hk : w < k) : fill_job_allows k ⟨R, w, h, e⟩ r (y : Int) = some (alB e w h r y) := by
  have hl := loop_all (F := fun k x (_ : Unit) => fill_job_allows.l0 k x ⟨R, w, h, e⟩ r (y : Int)) (S := fun _ => ()) (b := colE e h r y) (n := w) (K := 0) (r := false) (e := ()) (fun k x _ hx => by
    show fill_job_allows.l0 (k + 1) x ⟨R, w, h, e⟩ r (y : Int) = if colE e h r y x = true then fill_job_allows.l0 k ((x + 1 : Nat) : Int) ⟨R, w, h, e⟩ r (y : Int) else _
    have hwx : w64 ((x : Int) + 1) = ((x + 1 : Nat) : Int) := by rw [w64_id (by omega) (by omega)]; rfl
    have hwh : w64 ((h : Int) - 1) = ((h - 1 : Nat) : Int) := by rw [w64_id (by omega) (by omega)]; omega
    have hx8 : 0 ≤ (x : Int) ∧ (x : Int) < 8 := by omega
    have hS := at_eq' e.South x (r.South.get x) (he.s.imp id (fun h => by omega))
    have hN := at_eq' e.North x (r.North.get x) (he.n.imp id (fun h => by omega))
    rw [fill_job_allows.l0, if_pos (by simpa using hx), hwx, hwh]
    simp only [if_pos hx8, hS, hN, Option.bind_some]
    have e1 : ((y : Int) == ((h - 1 : Nat) : Int)) = decide (y + 1 = h) := by
      rw [Bool.eq_iff_iff]; simp; omega
    have e0 : ((y : Int) == 0) = decide (y = 0) := by rw [Bool.eq_iff_iff]; simp
    rw [e1, e0]
    unfold colE
    cases decide (y = 0) <;> cases decide (y + 1 = h) <;> cases atB e.South x (r.South.get x) <;> cases atB e.North x (r.North.get x) <;> simp) (fun k => by
    show fill_job_allows.l0 (k + 1) w ⟨R, w, h, e⟩ r (y : Int) = _
    rw [fill_job_allows.l0, if_neg (by simp)]) k (by omega)
  have h0 : fill_job_allows.l0 k 0 ⟨R, w, h, e⟩ r (y : Int) = some (if (List.range w).all (colE e h r y) = true then .inr () else .inl false) := hl
  unfold fill_job_allows alB
  rw [at_eq' e.West y r.West (he.we.imp id (fun h => by omega)), at_eq' e.East y r.East (he.ea.imp id (fun h => by omega)), h0]
  simp only [Option.bind_some]
  cases atB e.West y r.West <;> cases atB e.East y r.East <;> cases (List.range w).all (colE e h r y) <;> simp [sumb]
end Gp
set_option linter.unusedVariables false
set_option linter.unusedSimpArgs false
namespace Gp
open Gw Gq
/-! the whole function -/
def sidesB (e : Edges) (w h : Int) : Bool := (decide (e.North.length = 0) || decide ((e.North.length : Int) = w)) && (decide (e.South.length = 0) || decide ((e.South.length : Int) = w)) && (decide (e.East.length = 0) || decide ((e.East.length : Int) = h)) && (decide (e.West.length = 0) || decide ((e.West.length : Int) = h))
theorem begin_l0 (e : Edges) (w h : Int) (k : Nat) : fill_begin.l0 (k + 5) 0 w h e = some (if sidesB e w h = true then .inr () else .inl (none, 2)) := by
  have hside : ∀ (l : List Int) (n : Int), ((((l.length : Int) != 0) && ((l.length : Int) != n)) = !(decide (l.length = 0) || decide ((l.length : Int) = n))) := fun l n => by
    rw [Bool.eq_iff_iff]; simp
  have h1 : w64 (0 + 1) = 1 := by rw [w64_id (by omega) (by omega)]; rfl
  have h2 : w64 (1 + 1) = 2 := by rw [w64_id (by omega) (by omega)]; rfl
  have h3 : w64 (2 + 1) = 3 := by rw [w64_id (by omega) (by omega)]; rfl
  have h4 : w64 (3 + 1) = 4 := by rw [w64_id (by omega) (by omega)]; rfl
  unfold sidesB
  rw [fill_begin.l0, if_pos (by simp), if_pos (by simp), show rdD [(S_side_n.mk e.North w), (S_side_n.mk e.South w), (S_side_n.mk e.East h), (S_side_n.mk e.West h)] 0 z_S_side_n = S_side_n.mk e.North w from rfl, h1, hside]
  cases ha : (decide (e.North.length = 0) || decide ((e.North.length : Int) = w))
  · simp
  rw [if_neg (by simp), fill_begin.l0, if_pos (by simp), if_pos (by simp), show rdD [(S_side_n.mk e.North w), (S_side_n.mk e.South w), (S_side_n.mk e.East h), (S_side_n.mk e.West h)] 1 z_S_side_n = S_side_n.mk e.South w from rfl, h2, hside]
  cases hb : (decide (e.South.length = 0) || decide ((e.South.length : Int) = w))
  · simp
  rw [if_neg (by simp), fill_begin.l0, if_pos (by simp), if_pos (by simp), show rdD [(S_side_n.mk e.North w), (S_side_n.mk e.South w), (S_side_n.mk e.East h), (S_side_n.mk e.West h)] 2 z_S_side_n = S_side_n.mk e.East h from rfl, h3, hside]
  cases hc : (decide (e.East.length = 0) || decide ((e.East.length : Int) = h))
  · simp
  rw [if_neg (by simp), fill_begin.l0, if_pos (by simp), if_pos (by simp), show rdD [(S_side_n.mk e.North w), (S_side_n.mk e.South w), (S_side_n.mk e.East h), (S_side_n.mk e.West h)] 3 z_S_side_n = S_side_n.mk e.West h from rfl, h4, hside]
  cases hd : (decide (e.West.length = 0) || decide ((e.West.length : Int) = h))
  · simp
  rw [if_neg (by simp), fill_begin.l0, if_neg (by simp)]
  simp
theorem max_pow {n w : Nat} (h : fewB n w = true) : n ^ w ≤ 5000 := by
  unfold fewB at h
  rw [decide_eq_true_eq] at h
  exact Nat.le_trans (Nat.pow_le_pow_left (Nat.le_max_left n 1) w) h
theorem allR_len (set : List Tile) (w : Nat) : (allR set w).length ≤ set.length ^ w := by
  unfold allR; rw [List.length_map]; exact rowsL_len set w []
end Gp
set_option linter.unusedVariables false
set_option linter.unusedSimpArgs false
namespace Gp
open Gw Gq
/-! ### rows and patterns -/
theorem mem_rowsL0 (set : List Tile) : ∀ (n : Nat) (pre c : List Nat), c ∈ rowsL set n pre ↔ c.take pre.length = pre ∧ c.length = pre.length + n ∧ ∀ j, pre.length ≤ j → j < c.length → c.getD j 0 < set.length ∧ follows set (c.take j) (c.getD j 0) = true
  | 0, pre, c => by
    rw [rowsL, List.mem_singleton]
    constructor
    · intro h; subst h; exact ⟨List.take_length, rfl, fun j h1 h2 => by omega⟩
    · rintro ⟨h1, h2, _⟩
      rw [← h1, List.take_of_length_le (by omega)]
  | n + 1, pre, c => by
    rw [rowsL, List.mem_flatMap]
    constructor
    · rintro ⟨i, hi, hc⟩
      rw [List.mem_filter, List.mem_range] at hi
      obtain ⟨h1, h2, h3⟩ := (mem_rowsL0 set n (pre ++ [i]) c).1 hc
      rw [List.length_append, List.length_singleton] at h1 h2 h3
      have hp : c.take pre.length = pre := by
        have : c.take pre.length = (c.take (pre.length + 1)).take pre.length := by rw [List.take_take, Nat.min_eq_left (by omega)]
        rw [this, h1]; simp
      refine ⟨hp, by omega, fun j hj1 hj2 => ?_⟩
      by_cases e : j = pre.length
      · subst e
        have hg : c.getD pre.length 0 = i := by
          have h5 : (c.take (pre.length + 1))[pre.length]? = some i := by rw [h1]; simp
          rw [List.getElem?_take, if_pos (by omega)] at h5
          rw [List.getD_eq_getElem?_getD, h5]; rfl
        rw [hg, hp]; exact hi
      · exact h3 j (by omega) hj2
    · rintro ⟨h1, h2, h3⟩
      have hlt : pre.length < c.length := by omega
      obtain ⟨h4, h5⟩ := h3 pre.length (Nat.le_refl _) hlt
      rw [h1] at h5
      refine ⟨c.getD pre.length 0, ?_, (mem_rowsL0 set n _ c).2 ⟨?_, by simp; omega, fun j hj1 hj2 => h3 j (by simp at hj1; omega) hj2⟩⟩
      · rw [List.mem_filter, List.mem_range]; exact ⟨h4, h5⟩
      · rw [List.length_append, List.length_singleton, List.take_add_one, h1, List.getElem?_eq_getElem hlt]
        simp [List.getElem?_eq_getElem hlt]
structure RowOK (set : List Tile) (w : Nat) (c : List Nat) : Prop where
  len : c.length = w
  lt : ∀ x, x < w → c.getD x 0 < set.length
  adj : ∀ x, x + 1 < w → (tat set (c.getD x 0)).E = (tat set (c.getD (x + 1) 0)).W
theorem follows_take (set : List Tile) (c : List Nat) (j : Nat) (hj : j < c.length) (i : Nat) : follows set (c.take (j + 1)) i = ((tat set (c.getD j 0)).E == (tat set i).W) := by
  unfold follows
  have : (c.take (j + 1)).getLast? = some (c.getD j 0) := by
    have e : c.take (j + 1) = c.take j ++ [c[j]] := by rw [List.take_add_one, List.getElem?_eq_getElem hj]; rfl
    rw [e, List.getLast?_append]
    simp [List.getElem?_eq_getElem hj]
  rw [this]
theorem mem_rowsL (set : List Tile) (w : Nat) (c : List Nat) : c ∈ rowsL set w [] ↔ RowOK set w c := by
  rw [mem_rowsL0]
  constructor
  · rintro ⟨_, h2, h3⟩
    have hl : c.length = w := by simpa using h2
    refine ⟨hl, fun x hx => (h3 x (by simp) (by omega)).1, fun x hx => ?_⟩
    have := (h3 (x + 1) (by simp) (by omega)).2
    rw [follows_take set c x (by omega)] at this
    exact eq_of_beq this
  · rintro ⟨h1, h2, h3⟩
    refine ⟨by simp, by simp [h1], fun j _ hj => ⟨h2 j (by omega), ?_⟩⟩
    cases j with
    | zero => simp [follows]
    | succ j => rw [follows_take set c j (by omega), h3 j (by omega)]; simp
def sideN (set : List Tile) (c : List Nat) : List Int := c.map fun i => (tat set i).N
def sideS (set : List Tile) (c : List Nat) : List Int := c.map fun i => (tat set i).S
end Gp
set_option linter.unusedVariables false
set_option linter.unusedSimpArgs false
namespace Gp
open Gw Gq
/-! ### squares -/
def e0 : Edges := Edges.mk ([] : List Int) ([] : List Int) ([] : List Int) ([] : List Int)
end Gp
set_option linter.unusedVariables false
set_option linter.unusedSimpArgs false
namespace Gp
open Gw Gq
/-! ### tori -/
end Gp
set_option linter.unusedVariables false
set_option linter.unusedSimpArgs false
namespace Gp
open Gw Gq
/-! tori and patterns -/
end Gp
set_option linter.unusedVariables false
set_option linter.unusedSimpArgs false
namespace Gp
open Gw Gq
end Gp
set_option linter.unusedVariables false
set_option linter.unusedSimpArgs false
namespace Gp
open Gw Gq
/-! ### three tiles: a torus, or no square of side four -/
/-! masks of a set -/
def hR (set : List Tile) (i j : Nat) : Bool := decide (i < set.length ∧ j < set.length ∧ (tat set i).E = (tat set j).W)
end Gp
set_option linter.unusedVariables false
set_option linter.unusedSimpArgs false
namespace Gp
open Gw Gq
/-! ### the least torus -/
/-! ### the decision -/
end Gp
set_option linter.unusedVariables false
set_option linter.unusedSimpArgs false
namespace Gp
open Gw Gq
/-! ### fillings as grids; turned and renamed sets -/
end Gp
set_option linter.unusedVariables false
set_option linter.unusedSimpArgs false
namespace Gp
open Gw Gq
/-! ### a set with one tile more -/
end Gp
set_option linter.unusedVariables false
set_option linter.unusedSimpArgs false
namespace Gp
open Gw Gq
/-! ### torus.Find -/
theorem power_l0 (b n : Nat) (hb : b ≤ 1000000) (hn : n ≤ 1000) : ∀ (d i k : Nat), i + d = n → d < k → ref02_Power.l0 k (min (b ^ i) 1000000 : Nat) i b n = some ((min (b ^ n) 1000000 : Nat) : Int)
  | 0, i, k, e, hk => by
    obtain ⟨k, rfl⟩ : ∃ m, k = m + 1 := ⟨k - 1, by omega⟩
    have : i = n := by omega
    subst this
    rw [ref02_Power.l0, if_neg (by simp)]
  | d + 1, i, k, e, hk => by
    obtain ⟨k, rfl⟩ : ∃ m, k = m + 1 := ⟨k - 1, by omega⟩
    have ih := power_l0 b n hb hn d (i + 1) k (by omega) (by omega)
    have hwi : w64 ((i : Int) + 1) = ((i + 1 : Nat) : Int) := by rw [w64_id (by omega) (by omega)]; rfl
    have hm : (min (b ^ i) 1000000) * b ≤ 1000000 * 1000000 := Nat.mul_le_mul (Nat.min_le_right _ _) hb
    have hmul : ((min (b ^ i) 1000000 : Nat) : Int) * (b : Int) = (((min (b ^ i) 1000000) * b : Nat) : Int) := (Int.natCast_mul _ _).symm
    have key : min (min (b ^ i) 1000000 * b) 1000000 = min (b ^ (i + 1)) 1000000 := by
      rw [Nat.pow_succ]
      by_cases hx : b ^ i ≤ 1000000
      · rw [Nat.min_eq_left hx]
      · rw [Nat.min_eq_right (by omega : 1000000 ≤ b ^ i)]
        have h0 : 0 < b := by
          rcases Nat.eq_zero_or_pos b with h0 | h0
          · exfalso; subst h0
            have := Nat.pow_le_pow_left (by omega : 0 ≤ 1) i
            rw [Nat.one_pow] at this; omega
          · exact h0
        have a1 : 1000000 ≤ 1000000 * b := Nat.le_mul_of_pos_right _ h0
        have a2 : b ^ i ≤ b ^ i * b := Nat.le_mul_of_pos_right _ h0
        rw [Nat.min_eq_right a1, Nat.min_eq_right (by omega)]
    obtain ⟨M, hM⟩ : ∃ M, min (b ^ i) 1000000 * b = M := ⟨_, rfl⟩
    rw [hM] at hm hmul key
    have hmin : minI (M : Int) 1000000 = ((min (b ^ (i + 1)) 1000000 : Nat) : Int) := by
      rw [← key]; unfold minI; split <;> omega
    rw [ref02_Power.l0, if_pos (by simp; omega), hmul, w64_id (n := (M : Int)) (by omega) (by omega), hmin, hwi]
    exact ih
theorem power_eq (b n : Nat) (hb : b ≤ 1000000) (hn : n ≤ 1000) {k : Nat} (hk : n < k) : ref02_Power k b n = some ((min (b ^ n) 1000000 : Nat) : Int) := by
  have := power_l0 b n hb hn n 0 k (by omega) hk
  rw [Nat.pow_zero] at this
  have this : ref02_Power.l0 k 1 0 b n = _ := this
  unfold ref02_Power
  rw [this]; rfl
theorem great_eq (s : List Tile) (hl : s.length ≤ 1000) {w : Nat} (hw : 1 ≤ w ∧ w ≤ 60) {k : Nat} (hk : 1000 < k) : ref02_Great k s w = some (!fewB s.length w) := by
  unfold ref02_Great
  rw [power_eq s.length w (by omega) (by omega) (by omega), Option.bind_some]
  congr 1
  unfold fewB
  by_cases h : (max s.length 1) ^ w ≤ 5000
  · rw [decide_eq_true h]
    have : s.length ^ w ≤ (max s.length 1) ^ w := Nat.pow_le_pow_left (by omega) w
    exact decide_eq_false (by omega)
  · rw [decide_eq_false h]
    have : s.length ^ w = (max s.length 1) ^ w := by
      rcases Nat.eq_zero_or_pos s.length with h0 | h0
      · exfalso; rw [h0] at h; exact h (by simp)
      · rw [show max s.length 1 = s.length by omega]
    exact decide_eq_true (by omega)
/-! multiples -/
end Gp
set_option linter.unusedVariables false
set_option linter.unusedSimpArgs false
namespace Gp
open Gw Gq
/-! ### a torus is no higher than there are words -/
end Gp
set_option linter.unusedVariables false
set_option linter.unusedSimpArgs false
namespace Gp
open Gw Gq
/-! ### the reference's colours -/
def atS (l : List Int) (n : Int) : Int := if n ∈ l then (l.idxOf n : Int) else -1
theorem at_l0 (l : List Int) (n : Int) (hl : l.length ≤ 1000000) : ∀ (d i k : Nat), i + d = l.length → d < k → ref02_at.l0 k i l n = some (if n ∈ l.drop i then .inl (((i + (l.drop i).idxOf n : Nat)) : Int) else .inr ())
  | 0, i, k, e, hk => by
    obtain ⟨k, rfl⟩ : ∃ m, k = m + 1 := ⟨k - 1, by omega⟩
    rw [ref02_at.l0, if_neg (by simp; omega), List.drop_eq_nil_of_le (by omega)]; rfl
  | d + 1, i, k, e, hk => by
    obtain ⟨k, rfl⟩ : ∃ m, k = m + 1 := ⟨k - 1, by omega⟩
    have hlt : i < l.length := by omega
    have hwi : w64 ((i : Int) + 1) = ((i + 1 : Nat) : Int) := by rw [w64_id (by omega) (by omega)]; rfl
    rw [ref02_at.l0, if_pos (by simpa using hlt), if_pos (by omega), rdD_get hlt, hwi, at_l0 l n hl d (i + 1) k (by omega) (by omega), List.drop_eq_getElem_cons hlt]
    by_cases he : l[i] = n
    · rw [if_pos (by simpa using he), if_pos (by rw [he]; exact List.mem_cons_self ..)]
      rw [he, List.idxOf_cons_self]; rfl
    · rw [if_neg (by simpa using he)]
      have hm : n ∈ l[i] :: l.drop (i + 1) ↔ n ∈ l.drop (i + 1) := by
        rw [List.mem_cons]
        exact ⟨fun h => h.resolve_left (fun e => he e.symm), .inr⟩
      by_cases hd : n ∈ l.drop (i + 1)
      · rw [if_pos hd, if_pos (hm.2 hd), List.idxOf_cons, show (l[i] == n) = false by simpa using he]
        simp only [cond_false]
        congr 2; omega
      · rw [if_neg hd, if_neg (fun h => hd (hm.1 h))]
theorem at_eq (l : List Int) (n : Int) (hl : l.length ≤ 1000000) {k : Nat} (hk : l.length < k) : ref02_at k l n = some (atS l n) := by
  have := at_l0 l n hl l.length 0 k (by omega) hk
  have this : ref02_at.l0 k 0 l n = _ := this
  unfold ref02_at atS
  rw [this, List.drop_zero]
  by_cases h : n ∈ l
  · rw [if_pos h, if_pos h]; simp [sumb]
  · rw [if_neg h, if_neg h]; rfl
def withS (l : List Int) (n : Int) : List Int := if n ∈ l then l else l ++ [n]
theorem with_eq (l : List Int) (n : Int) (hl : l.length ≤ 1000000) {k : Nat} (hk : l.length < k) : ref02_with k l n = some (withS l n) := by
  unfold ref02_with withS
  rw [at_eq l n hl hk, Option.bind_some]
  unfold atS
  by_cases h : n ∈ l
  · rw [if_pos h, if_neg (by simp), if_pos h]; rfl
  · rw [if_neg h, if_pos (by decide), if_pos (by simp; omega), if_neg h]; rfl
theorem withS_len (l : List Int) (n : Int) : (withS l n).length ≤ l.length + 1 := by unfold withS; split <;> simp
theorem mem_withS (l : List Int) (n x : Int) : x ∈ withS l n ↔ x ∈ l ∨ x = n := by
  unfold withS
  split
  · rename_i h; exact ⟨.inl, fun e => e.elim id (fun e => e ▸ h)⟩
  · simp
theorem withS_nodup {l : List Int} (n : Int) (h : l.Nodup) : (withS l n).Nodup := by
  unfold withS
  split
  · exact h
  · rename_i hn
    rw [List.nodup_append]
    exact ⟨h, List.nodup_cons.2 ⟨by simp, List.nodup_nil⟩, fun a ha b hb => by
      rw [List.mem_singleton] at hb; intro e; exact hn (by rw [← hb, ← e]; exact ha)⟩
def colS2 (l : List Int) (t : Tile) : List Int := withS (withS l t.N) t.S
def colsS (s : List Tile) : List Int := s.foldl colS2 []
theorem colours_eq (s : List Tile) (hl : s.length ≤ 2000) {k : Nat} (hk : 10000 < k) : ref02_Colours k s = some (colsS s) := by
  have := loop_list (F := fun k i (l : List Int) => ref02_Colours.l0 k l i s) s colS2 5000 (fun i l => l.length ≤ 2 * i) id (fun k i l h hk hP => by
    have hwi : w64 ((i : Int) + 1) = ((i + 1 : Nat) : Int) := by rw [w64_id (by omega) (by omega)]; rfl
    have h1 := withS_len l s[i].N
    have h2 := withS_len (withS l s[i].N) s[i].S
    constructor
    · show ref02_Colours.l0 (k + 1) l i s = _
      rw [ref02_Colours.l0, if_pos (by simpa using h), if_pos (by omega), rdD_get h, with_eq l _ (by omega) (by omega), Option.bind_some, with_eq _ _ (by omega) (by omega), Option.bind_some, hwi]; rfl
    · unfold colS2; omega) (fun k l _ => by
    show ref02_Colours.l0 (k + 1) l s.length s = _
    rw [ref02_Colours.l0, if_neg (by simp)]; rfl) [] (by simp) k (by omega)
  have this : ref02_Colours.l0 k [] 0 s = _ := this
  unfold ref02_Colours
  rw [this]; rfl
theorem colsS_spec (s : List Tile) : (colsS s).Nodup ∧ (colsS s).length ≤ 2 * s.length ∧ ∀ c, c ∈ colsS s ↔ ∃ t ∈ s, c = t.N ∨ c = t.S := by
  have key : ∀ (r : List Tile) (l : List Int), l.Nodup → (r.foldl colS2 l).Nodup ∧ (r.foldl colS2 l).length ≤ l.length + 2 * r.length ∧ ∀ c, c ∈ r.foldl colS2 l ↔ c ∈ l ∨ ∃ t ∈ r, c = t.N ∨ c = t.S := by
    intro r
    induction r with
    | nil => intro l h; exact ⟨h, by simp, fun c => by simp⟩
    | cons t r ih =>
      intro l h
      obtain ⟨a, b, c⟩ := ih (colS2 l t) (withS_nodup _ (withS_nodup _ h))
      have h1 := withS_len l t.N
      have h2 := withS_len (withS l t.N) t.S
      refine ⟨a, ?_, fun x => ?_⟩
      · rw [List.foldl_cons, List.length_cons]; unfold colS2 at b ⊢; omega
      · rw [List.foldl_cons, c x]
        unfold colS2
        rw [mem_withS, mem_withS]
        simp only [List.mem_cons, exists_eq_or_imp]
        constructor
        · rintro (((h | h) | h) | h)
          · exact .inl h
          · exact .inr (.inl (.inl h))
          · exact .inr (.inl (.inr h))
          · exact .inr (.inr h)
        · rintro (h | (h | h) | h)
          · exact .inl (.inl (.inl h))
          · exact .inl (.inl (.inr h))
          · exact .inl (.inr h)
          · exact .inr h
  obtain ⟨a, b, c⟩ := key s [] List.nodup_nil
  exact ⟨a, by simpa [colsS] using b, fun x => by rw [colsS, c x]; simp⟩
theorem light_some (s : List Tile) (hl : s.length ≤ 1000) {w : Nat} (hw : w ≤ 1000) {k : Nat} (hk : 10000 < k) : ref02_Light k s w = some (decide (min ((colsS s).length ^ w) 1000000 ≤ 1500) && decide (min (s.length ^ w) 1000000 ≤ 40000)) := by
  obtain ⟨_, hc, _⟩ := colsS_spec s
  unfold ref02_Light
  rw [colours_eq s (by omega) hk, Option.bind_some, power_eq (colsS s).length w (by omega) hw (by omega), Option.bind_some]
  have d1 : ∀ a b : Nat, decide (((a : Nat) : Int) ≤ ((b : Nat) : Int)) = decide (a ≤ b) := fun a b => by
    by_cases h : a ≤ b
    · rw [decide_eq_true h, decide_eq_true (by omega)]
    · rw [decide_eq_false h, decide_eq_false (by omega)]
  have e1 := d1 (min ((colsS s).length ^ w) 1000000) 1500
  have e2 := d1 (min (s.length ^ w) 1000000) 40000
  have e1' : decide (((min ((colsS s).length ^ w) 1000000 : Nat) : Int) ≤ 1500) = decide (min ((colsS s).length ^ w) 1000000 ≤ 1500) := e1
  have e2' : decide (((min (s.length ^ w) 1000000 : Nat) : Int) ≤ 40000) = decide (min (s.length ^ w) 1000000 ≤ 40000) := e2
  rw [e1']
  cases h : decide (min ((colsS s).length ^ w) 1000000 ≤ 1500)
  · rfl
  · rw [if_pos rfl, power_eq s.length w (by omega) hw (by omega), Option.bind_some, e2']; rfl
/-! ### squares fall -/
end Gp
set_option linter.unusedVariables false
set_option linter.unusedSimpArgs false
namespace Gp
open Gw Gq
/-! ### the reference's rows -/
def numW (C : List Int) : List Int → Nat
  | [] => 0
  | x :: l => C.idxOf x + C.length * numW C l
theorem numW_push (C : List Int) : ∀ (l : List Int) (x : Int), numW C (l ++ [x]) = numW C l + C.length ^ l.length * C.idxOf x
  | [], x => by simp [numW]
  | y :: l, x => by
    rw [List.cons_append, numW, numW_push C l x, numW, List.length_cons, Nat.pow_succ, Nat.mul_add, Nat.mul_comm (C.length ^ l.length) C.length, Nat.mul_assoc, Nat.add_assoc]
theorem numW_lt (C : List Int) : ∀ (l : List Int), (∀ x ∈ l, x ∈ C) → numW C l < C.length ^ l.length
  | [], _ => by simp [numW]
  | x :: l, h => by
    have h1 : C.idxOf x < C.length := List.idxOf_lt_length_of_mem (h x (List.mem_cons_self ..))
    have h2 := numW_lt C l (fun y hy => h y (List.mem_cons_of_mem _ hy))
    rw [numW, List.length_cons, Nat.pow_succ, Nat.mul_comm (C.length ^ l.length)]
    have : C.length * (numW C l + 1) ≤ C.length * C.length ^ l.length := Nat.mul_le_mul_left _ h2
    rw [Nat.mul_succ] at this
    omega
theorem idxOf_inj {C : List Int} {x y : Int} (hx : x ∈ C) (hy : y ∈ C) (h : C.idxOf x = C.idxOf y) : x = y := by
  have h1 := List.getElem_idxOf (List.idxOf_lt_length_of_mem hx)
  have h2 := List.getElem_idxOf (List.idxOf_lt_length_of_mem hy)
  rw [← h1, ← h2]
  simp only [h]
theorem numW_inj (C : List Int) : ∀ (a b : List Int), a.length = b.length → (∀ x ∈ a, x ∈ C) → (∀ x ∈ b, x ∈ C) → numW C a = numW C b → a = b
  | [], [], _, _, _, _ => rfl
  | [], _ :: _, h, _, _, _ => by cases h
  | _ :: _, [], h, _, _, _ => by cases h
  | x :: a, y :: b, hl, ha, hb, h => by
    have hx := ha x (List.mem_cons_self ..)
    have hy := hb y (List.mem_cons_self ..)
    have h1 : C.idxOf x < C.length := List.idxOf_lt_length_of_mem hx
    have h2 : C.idxOf y < C.length := List.idxOf_lt_length_of_mem hy
    rw [numW, numW] at h
    have m1 : (C.idxOf x + C.length * numW C a) % C.length = C.idxOf x := by rw [Nat.add_mul_mod_self_left, Nat.mod_eq_of_lt h1]
    have m2 : (C.idxOf y + C.length * numW C b) % C.length = C.idxOf y := by rw [Nat.add_mul_mod_self_left, Nat.mod_eq_of_lt h2]
    have e1 : C.idxOf x = C.idxOf y := by rw [← m1, ← m2, h]
    have e2 : numW C a = numW C b := by
      rw [e1] at h
      have : C.length * numW C a = C.length * numW C b := by omega
      exact Nat.eq_of_mul_eq_mul_left (by omega) this
    rw [idxOf_inj hx hy e1, numW_inj C a b (by simpa using hl) (fun z hz => ha z (List.mem_cons_of_mem _ hz)) (fun z hz => hb z (List.mem_cons_of_mem _ hz)) e2]
abbrev RRow := Row_ref02
def mkF (s : List Tile) (C : List Int) (c : List Nat) : RRow := ⟨cz c, (numW C (sideS s c) : Nat), (numW C (sideN s c) : Nat)⟩
theorem foldl_flat {α β : Type} (p : α → Bool) (g : α → List β) : ∀ (xs : List α) (acc : List β), xs.foldl (fun a i => if p i = true then a ++ g i else a) acc = acc ++ (xs.filter p).flatMap g
  | [], acc => by simp
  | x :: r, acc => by
    rw [List.foldl_cons, foldl_flat p g r, List.filter_cons]
    cases p x <;> simp
theorem atS_mem {C : List Int} {x : Int} (h : x ∈ C) : atS C x = (C.idxOf x : Int) := by unfold atS; rw [if_pos h]
theorem follows_last (s : List Tile) (c : List Nat) (i : Nat) (h : 0 < c.length) : follows s c i = ((tat s (c.getD (c.length - 1) 0)).E == (tat s i).W) := by
  unfold follows
  have : c.getLast? = some (c.getD (c.length - 1) 0) := by
    rw [List.getLast?_eq_getElem?, List.getElem?_eq_getElem (by omega), List.getD_eq_getElem?_getD, List.getElem?_eq_getElem (by omega)]; rfl
  rw [this]
theorem extend_eq (s : List Tile) (C : List Int) (w : Nat) (hl : s.length ≤ 1000) (hC : ∀ i, i < s.length → (tat s i).S ∈ C ∧ (tat s i).N ∈ C) (hC2 : C.length ≤ 2000) (hpow : C.length ^ w ≤ 1000000) (hw : w ≤ 60) : ∀ (n : Nat) (c : List Nat) (out : List RRow) (k : Nat), c.length + n = w → (∀ i ∈ c, i < s.length) → out.length + s.length ^ n ≤ 100000000 → 10000 + n + s.length < k →
    ref02_extend k s C (mkF s C c) w ((C.length ^ c.length : Nat) : Int) out = some (out ++ (rowsL s n c).map (mkF s C))
  | 0, c, out, k, e, hc, ho, hk => by
    obtain ⟨k, rfl⟩ : ∃ m, k = m + 1 := ⟨k - 1, by omega⟩
    have : (mkF s C c).Cells.length = c.length := by simp [mkF, cz]
    rw [ref02_extend, this, if_pos (by simp; omega), if_pos (by rw [Nat.pow_zero] at ho; omega), rowsL]; rfl
  | n + 1, c, out, k, e, hc, ho, hk => by
    obtain ⟨K, rfl⟩ : ∃ m, k = m + 1 := ⟨k - 1, by omega⟩
    have hcl : (mkF s C c).Cells.length = c.length := by simp [mkF, cz]
    rw [ref02_extend, hcl, if_neg (by simp; omega)]
    have hby : C.length ^ (c.length + 1) ≤ 1000000 := by
      rcases Nat.eq_zero_or_pos C.length with h0 | h0
      · rw [h0, Nat.pow_succ, Nat.mul_zero]; omega
      · exact Nat.le_trans (Nat.pow_le_pow_right h0 (by omega)) hpow
    have hS : ∀ d : List Nat, (∀ i ∈ d, i < s.length) → (∀ x ∈ sideS s d, x ∈ C) ∧ (∀ x ∈ sideN s d, x ∈ C) := fun d hd => by
      constructor
      · intro x hx; unfold sideS at hx; obtain ⟨i, hi, rfl⟩ := List.mem_map.1 hx; exact (hC i (hd i hi)).1
      · intro x hx; unfold sideN at hx; obtain ⟨i, hi, rfl⟩ := List.mem_map.1 hx; exact (hC i (hd i hi)).2
    have hlenS : ∀ d : List Nat, (sideS s d).length = d.length ∧ (sideN s d).length = d.length := fun d => by simp [sideS, sideN]
    -- one turn of the loop
    have hst : ∀ (i : Nat), i < s.length → ∀ (k' : Nat) (l : List RRow), 5000 < k' → l.length + s.length ^ n ≤ 100000000 → ref02_extend.l0 (k' + 1) l i s C (mkF s C c) w ((C.length ^ c.length : Nat) : Int) (ref02_extend K) = ref02_extend.l0 k' (if follows s c i = true then l ++ (rowsL s n (c ++ [i])).map (mkF s C) else l) ((i + 1 : Nat) : Int) s C (mkF s C c) w ((C.length ^ c.length : Nat) : Int) (ref02_extend K) := fun i hi k' l hk' hll => by
      have hwi : w64 ((i : Int) + 1) = ((i + 1 : Nat) : Int) := by rw [w64_id (by omega) (by omega)]; rfl
      have et : rdD s (i : Int) z_Tile = tat s i := rdD_nat s i z_Tile
      have hcond : (if (decide ((((mkF s C c).Cells.length : Nat) : Int) > 0)) = true then (if 0 ≤ w64 ((((mkF s C c).Cells.length : Nat) : Int) - 1) ∧ w64 ((((mkF s C c).Cells.length : Nat) : Int) - 1) < (((mkF s C c).Cells.length : Nat) : Int) then (if 0 ≤ (rdD (mkF s C c).Cells (w64 ((((mkF s C c).Cells.length : Nat) : Int) - 1)) 0) ∧ (rdD (mkF s C c).Cells (w64 ((((mkF s C c).Cells.length : Nat) : Int) - 1)) 0) < (s.length : Int) then (some (((rdD s (rdD (mkF s C c).Cells (w64 ((((mkF s C c).Cells.length : Nat) : Int) - 1)) 0) z_Tile).E) != ((rdD s (i : Int) z_Tile).W))) else none) else none) else (some false)) = some (!follows s c i) := by
        rw [hcl]
        rcases Nat.eq_zero_or_pos c.length with h0 | h0
        · rw [if_neg (by simp; exact List.eq_nil_of_length_eq_zero h0), List.eq_nil_of_length_eq_zero h0]; rfl
        · have hw1 : w64 ((c.length : Int) - 1) = ((c.length - 1 : Nat) : Int) := by rw [w64_id (by omega) (by omega)]; omega
          have hrd : rdD (mkF s C c).Cells ((c.length - 1 : Nat) : Int) 0 = ((c.getD (c.length - 1) 0 : Nat) : Int) := by
            rw [rdD_nat]
            show (cz c).getD _ _ = _
            simp [cz, List.getElem?_eq_getElem (show c.length - 1 < c.length by omega)]
          have hlast : c.getD (c.length - 1) 0 < s.length := by
            rw [List.getD_eq_getElem?_getD, List.getElem?_eq_getElem (show c.length - 1 < c.length by omega), Option.getD_some]
            exact hc _ (List.getElem_mem _)
          rw [if_pos (by simp; omega), hw1, if_pos (by omega), hrd, if_pos (by omega), follows_last s c i h0, et, rdD_nat]; rfl
      rw [ref02_extend.l0, if_pos (by simp; omega), if_pos (by omega), hcond, Option.bind_some, hwi]
      cases hf : follows s c i
      · rfl
      · rw [if_neg (by simp)]
        have hci : ∀ j ∈ c ++ [i], j < s.length := fun j hj => by
          rcases List.mem_append.1 hj with h | h
          · exact hc j h
          · rw [List.mem_singleton] at h; rw [h]; exact hi
        have ec : (([] : List Int) ++ (mkF s C c).Cells) ++ [(i : Int)] = cz (c ++ [i]) := by simp [mkF, cz]
        have l1 : ([] : List Int).length + (mkF s C c).Cells.length ≤ 100000000000 := by rw [hcl]; simp; omega
        have l2 : (([] : List Int) ++ (mkF s C c).Cells).length + [(i : Int)].length ≤ 100000000000 := by rw [List.nil_append, hcl]; simp; omega
        have i1 : C.idxOf (tat s i).S < C.length := List.idxOf_lt_length_of_mem (hC i hi).1
        have i2 : C.idxOf (tat s i).N < C.length := List.idxOf_lt_length_of_mem (hC i hi).2
        have b0 : C.length ^ c.length * C.length ≤ 1000000 := by rw [← Nat.pow_succ]; exact hby
        have n1 := numW_lt C _ (hS (c ++ [i]) hci).1
        have n2 := numW_lt C _ (hS (c ++ [i]) hci).2
        rw [(hlenS _).1, List.length_append, List.length_singleton] at n1
        rw [(hlenS _).2, List.length_append, List.length_singleton] at n2
        have pS : numW C (sideS s (c ++ [i])) = numW C (sideS s c) + C.length ^ c.length * C.idxOf (tat s i).S := by
          rw [show sideS s (c ++ [i]) = sideS s c ++ [(tat s i).S] by simp [sideS], numW_push, (hlenS c).1]
        have pN : numW C (sideN s (c ++ [i])) = numW C (sideN s c) + C.length ^ c.length * C.idxOf (tat s i).N := by
          rw [show sideN s (c ++ [i]) = sideN s c ++ [(tat s i).N] by simp [sideN], numW_push, (hlenS c).2]
        have w1 : w64 ((mkF s C c).South + w64 (((C.length ^ c.length : Nat) : Int) * ((C.idxOf (tat s i).S : Nat) : Int))) = ((numW C (sideS s (c ++ [i])) : Nat) : Int) := by
          show w64 (((numW C (sideS s c) : Nat) : Int) + _) = _
          rw [← Int.natCast_mul]
          generalize C.length ^ c.length * C.idxOf (tat s i).S = M at pS
          rw [w64_id (n := (M : Int)) (by omega) (by omega), w64_id (by omega) (by omega)]; omega
        have w2 : w64 ((mkF s C c).North + w64 (((C.length ^ c.length : Nat) : Int) * ((C.idxOf (tat s i).N : Nat) : Int))) = ((numW C (sideN s (c ++ [i])) : Nat) : Int) := by
          show w64 (((numW C (sideN s c) : Nat) : Int) + _) = _
          rw [← Int.natCast_mul]
          generalize C.length ^ c.length * C.idxOf (tat s i).N = M at pN
          rw [w64_id (n := (M : Int)) (by omega) (by omega), w64_id (by omega) (by omega)]; omega
        have w3 : w64 (((C.length ^ c.length : Nat) : Int) * (C.length : Int)) = ((C.length ^ (c ++ [i]).length : Nat) : Int) := by
          rw [← Int.natCast_mul, List.length_append, List.length_singleton, Nat.pow_succ]
          generalize C.length ^ c.length * C.length = M at b0
          rw [w64_id (by omega) (by omega)]
        rw [if_pos l1, if_pos l2, et, at_eq C _ (by omega) (by omega), Option.bind_some, at_eq C _ (by omega) (by omega), Option.bind_some, Option.bind_some, atS_mem (hC i hi).1, atS_mem (hC i hi).2]
        simp only
        rw [ec, w1, w2, w3, show (Row_ref02.mk (cz (c ++ [i])) ((numW C (sideS s (c ++ [i])) : Nat) : Int) ((numW C (sideN s (c ++ [i])) : Nat) : Int)) = mkF s C (c ++ [i]) from rfl]
        rw [extend_eq s C w hl hC hC2 hpow hw n (c ++ [i]) l K (by simp; omega) hci hll (by omega), Option.bind_some, Option.bind_some, if_pos trivial]
    have hrl : ∀ c : List Nat, (rowsL s n c).length ≤ s.length ^ n := fun c => rowsL_len s n c
    have := loop_list (F := fun k' i (l : List RRow) => ref02_extend.l0 k' l i s C (mkF s C c) w ((C.length ^ c.length : Nat) : Int) (ref02_extend K)) (List.range s.length) (fun l i => if follows s c i = true then l ++ (rowsL s n (c ++ [i])).map (mkF s C) else l) 5001 (fun i l => l.length ≤ out.length + i * s.length ^ n) id (fun k' i l h hk' hP => by
      have hi : i < s.length := by simpa using h
      have hm : i * s.length ^ n + s.length ^ n ≤ s.length ^ (n + 1) := by
        rw [← Nat.succ_mul, Nat.pow_succ, Nat.mul_comm]
        exact Nat.mul_le_mul_left _ hi
      constructor
      · show ref02_extend.l0 (k' + 1) l i s C (mkF s C c) w _ (ref02_extend K) = _
        rw [hst i hi k' l (by omega) (by omega), List.getElem_range]
      · rw [List.getElem_range, Nat.succ_mul]
        have := hrl (c ++ [i])
        split
        · rw [List.length_append, List.length_map]; omega
        · omega) (fun k' l _ => by
      show ref02_extend.l0 (k' + 1) l ((List.range s.length).length : Nat) s C (mkF s C c) w _ (ref02_extend K) = _
      rw [ref02_extend.l0, if_neg (by simp)]; rfl) out (by omega) K (by simp; omega)
    have this : ref02_extend.l0 K out 0 s C (mkF s C c) w ((C.length ^ c.length : Nat) : Int) (ref02_extend K) = _ := this
    rw [this, id, Option.bind_some, foldl_flat (fun i => follows s c i), rowsL, List.map_flatMap]
theorem rows_ref (s : List Tile) (w : Nat) (hl : s.length ≤ 1000) (hpow : (colsS s).length ^ w ≤ 1000000) (hrow : s.length ^ w ≤ 1000000) (hw : w ≤ 60) {k : Nat} (hk : 20000 < k) : ref02_Rows k s w = some ((rowsL s w []).map (mkF s (colsS s))) := by
  obtain ⟨_, h2, h3⟩ := colsS_spec s
  have hC : ∀ i, i < s.length → (tat s i).S ∈ colsS s ∧ (tat s i).N ∈ colsS s := fun i hi => by
    have : tat s i ∈ s := by unfold tat; rw [List.getD_eq_getElem?_getD, List.getElem?_eq_getElem hi]; exact List.getElem_mem _
    exact ⟨(h3 _).2 ⟨_, this, .inr rfl⟩, (h3 _).2 ⟨_, this, .inl rfl⟩⟩
  have := extend_eq s (colsS s) w hl hC (by omega) hpow hw w [] [] k (by simp) (by simp) (by simpa using (by omega : s.length ^ w ≤ 100000000)) (by omega)
  unfold ref02_Rows
  rw [colours_eq s (by omega) (by omega), Option.bind_some]
  have e : (Row_ref02.mk ([] : List Int) 0 0) = mkF s (colsS s) [] := rfl
  rw [e]
  have e2 : (((colsS s).length ^ ([] : List Nat).length : Nat) : Int) = 1 := by simp
  rw [e2] at this
  rw [this]; simp
end Gp
set_option linter.unusedVariables false
set_option linter.unusedSimpArgs false
namespace Gp
open Gw Gq
/-! ### the reference's tori -/
end Gp
set_option linter.unusedVariables false
set_option linter.unusedSimpArgs false
namespace Gp
open Gw Gq
/-! program and reference -/
structure SetC (s : List Tile) (C : List Int) (w : Nat) (B : List (List Nat)) : Prop where
  w8 : w ≤ 8
  col : ∀ i, i < s.length → (tat s i).S ∈ C ∧ (tat s i).N ∈ C
  row : ∀ c ∈ B, RowOK s w c
theorem SetC.mem {s : List Tile} {C : List Int} {w : Nat} {B : List (List Nat)} (h : SetC s C w B) {c : List Nat} (hc : c ∈ B) : (sideS s c).length = w ∧ (sideN s c).length = w ∧ (∀ y ∈ sideS s c, y ∈ C) ∧ (∀ y ∈ sideN s c, y ∈ C) := by
  have hr := h.row c hc
  have hcl : ∀ i ∈ c, i < s.length := fun i hi => by
    obtain ⟨j, hj, rfl⟩ := List.getElem_of_mem hi
    have := hr.lt j (by rw [← hr.len]; exact hj)
    rwa [List.getD_eq_getElem?_getD, List.getElem?_eq_getElem hj, Option.getD_some] at this
  exact ⟨by simp [sideS, hr.len], by simp [sideN, hr.len], fun y hy => by unfold sideS at hy; obtain ⟨i, hi, rfl⟩ := List.mem_map.1 hy; exact (h.col i (hcl i hi)).1, fun y hy => by unfold sideN at hy; obtain ⟨i, hi, rfl⟩ := List.mem_map.1 hy; exact (h.col i (hcl i hi)).2⟩
end Gp
set_option linter.unusedVariables false
set_option linter.unusedSimpArgs false
namespace Gp
open Gw Gq
theorem colsS_col (s : List Tile) : ∀ i, i < s.length → (tat s i).S ∈ colsS s ∧ (tat s i).N ∈ colsS s := fun i hi => by
  obtain ⟨_, _, h3⟩ := colsS_spec s
  have : tat s i ∈ s := by unfold tat; rw [List.getD_eq_getElem?_getD, List.getElem?_eq_getElem hi]; exact List.getElem_mem _
  exact ⟨(h3 _).2 ⟨_, this, .inr rfl⟩, (h3 _).2 ⟨_, this, .inl rfl⟩⟩
/-! ### the reference's least torus -/
end Gp
set_option linter.unusedVariables false
set_option linter.unusedSimpArgs false
namespace Gp
open Gw Gq
/-! ### the reference's first filling -/
theorem has_eq (l : List Int) (i : Nat) (c : Int) (h : l.length = 0 ∨ i < l.length) : ref02_has l (i : Int) c = some (atB l i c) := by
  unfold ref02_has atB
  by_cases h0 : l.length = 0
  · rw [if_pos (by simp [h0])]; simp [h0]
  · rw [if_neg (by simp; simpa using h0), if_pos (by omega), rdD_nat]; simp [h0]
theorem fits_ref {s : List Tile} (C : List Int) {w h : Nat} {e : Edges} (he : EdgeOK e w h) (hw : 1 ≤ w ∧ w ≤ 8) (hh : h ≤ 1000) {c : List Nat} (hc : RowOK s w c) {y : Nat} (hy : y < h) {k : Nat} (hk : w < k) : ref02_fits k s (mkF s C c) y h e = some (alB e w h (mkR s c) y) := by
  have hcl : (mkF s C c).Cells.length = w := by show (cz c).length = w; simp [cz, hc.len]
  have g : ∀ j : Nat, j < w → rdD (mkF s C c).Cells (j : Int) 0 = ((c.getD j 0 : Nat) : Int) := fun j hj => by
    rw [rdD_nat]
    show (cz c).getD j 0 = _
    simp [cz, List.getElem?_eq_getElem (show j < c.length by rw [hc.len]; exact hj)]
  have g0 : rdD (mkF s C c).Cells (0 : Int) 0 = ((c.getD 0 0 : Nat) : Int) := g 0 (by omega)
  have hwm : w64 (((mkF s C c).Cells.length : Int) - 1) = ((w - 1 : Nat) : Int) := by rw [hcl, w64_id (by omega) (by omega)]; omega
  have hhm : w64 ((h : Int) - 1) = ((h - 1 : Nat) : Int) := by rw [w64_id (by omega) (by omega)]; omega
  have lt0 := hc.lt 0 (by omega)
  have ltl := hc.lt (w - 1) (by omega)
  have eW : (mkR s c).West = (tat s (c.getD 0 0)).W := by
    show (tat s (c.headD 0)).W = _
    congr 2
    cases c <;> simp
  have eE : (mkR s c).East = (tat s (c.getD (w - 1) 0)).E := by
    show (tat s (c.getLastD 0)).E = _
    congr 2
    rw [List.getLastD_eq_getLast?, List.getLast?_eq_getElem?, hc.len, List.getD_eq_getElem?_getD]
  have hl := loop_all (F := fun k x (_ : Unit) => ref02_fits.l0 k x s (mkF s C c) y h e) (S := fun _ => ()) (b := colE e h (mkR s c) y) (n := w) (K := 0) (r := false) (e := ()) (fun k x _ hx => by
    show ref02_fits.l0 (k + 1) x s (mkF s C c) y h e = if colE e h (mkR s c) y x = true then ref02_fits.l0 k ((x + 1 : Nat) : Int) s (mkF s C c) y h e else _
    have hwx : w64 ((x : Int) + 1) = ((x + 1 : Nat) : Int) := by rw [w64_id (by omega) (by omega)]; rfl
    have ltx := hc.lt x hx
    have sS : (mkR s c).South.get x = (tat s (c.getD x 0)).S := by
      show (wordOf (c.map fun i => (tat s i).S)).get x = _
      rw [wordOf_get _ x (by omega)]
      simp [List.getElem?_eq_getElem (show x < c.length by rw [hc.len]; exact hx)]
    have sN : (mkR s c).North.get x = (tat s (c.getD x 0)).N := by
      show (wordOf (c.map fun i => (tat s i).N)).get x = _
      rw [wordOf_get _ x (by omega)]
      simp [List.getElem?_eq_getElem (show x < c.length by rw [hc.len]; exact hx)]
    have hS := has_eq e.South x (tat s (c.getD x 0)).S (he.s.imp id (fun h => by omega))
    have hN := has_eq e.North x (tat s (c.getD x 0)).N (he.n.imp id (fun h => by omega))
    have et : rdD s ((c.getD x 0 : Nat) : Int) z_Tile = tat s (c.getD x 0) := rdD_nat _ _ _
    unfold colE
    rw [sS, sN, ref02_fits.l0, if_pos (by rw [hcl]; simp; omega), if_pos (by rw [hcl]; omega), g x hx, if_pos (by omega), et, hwx, hhm]
    by_cases h0 : y = 0
    · have b0 : ((y : Int) == 0) = true := by simp [h0]
      rw [b0, if_pos rfl, hS, Option.bind_some, Option.bind_some, decide_eq_true h0]
      cases ha : atB e.South x (tat s (c.getD x 0)).S
      · rfl
      · rw [if_neg (by decide)]
        by_cases h1 : y + 1 = h
        · have b1 : ((y : Int) == ((h - 1 : Nat) : Int)) = true := by rw [beq_iff_eq]; omega
          rw [b1, if_pos rfl, hN, Option.bind_some, Option.bind_some, Option.bind_some, decide_eq_true h1]
          cases hb : atB e.North x (tat s (c.getD x 0)).N <;> rfl
        · have b1 : ((y : Int) == ((h - 1 : Nat) : Int)) = false := by rw [beq_eq_false_iff_ne]; omega
          rw [b1, decide_eq_false h1]; rfl
    · have b0 : ((y : Int) == 0) = false := by rw [beq_eq_false_iff_ne]; omega
      rw [b0, if_neg (by decide), Option.bind_some, if_neg (by decide), decide_eq_false h0]
      by_cases h1 : y + 1 = h
      · have b1 : ((y : Int) == ((h - 1 : Nat) : Int)) = true := by rw [beq_iff_eq]; omega
        rw [b1, if_pos rfl, hN, Option.bind_some, Option.bind_some, Option.bind_some, decide_eq_true h1]
        cases hb : atB e.North x (tat s (c.getD x 0)).N <;> rfl
      · have b1 : ((y : Int) == ((h - 1 : Nat) : Int)) = false := by rw [beq_eq_false_iff_ne]; omega
        rw [b1, decide_eq_false h1]; rfl) (fun k => by
    show ref02_fits.l0 (k + 1) w s (mkF s C c) y h e = _
    rw [ref02_fits.l0, if_neg (by rw [hcl]; simp)]) k (by omega)
  have hl : ref02_fits.l0 k 0 s (mkF s C c) y h e = some (if (List.range w).all (colE e h (mkR s c) y) = true then .inr () else .inl false) := hl
  have hW := has_eq e.West y (tat s (c.getD 0 0)).W (he.we.imp id (fun h => by omega))
  have hE := has_eq e.East y (tat s (c.getD (w - 1) 0)).E (he.ea.imp id (fun h => by omega))
  have et0 : rdD s ((c.getD 0 0 : Nat) : Int) z_Tile = tat s (c.getD 0 0) := rdD_nat _ _ _
  have etl : rdD s ((c.getD (w - 1) 0 : Nat) : Int) z_Tile = tat s (c.getD (w - 1) 0) := rdD_nat _ _ _
  unfold ref02_fits alB
  rw [eW, eE, if_pos (by rw [hcl]; omega), g0, if_pos (by omega), et0, hW, Option.bind_some, hwm]
  cases ha : atB e.West y (tat s (c.getD 0 0)).W
  · rfl
  · rw [if_neg (by decide), if_pos (by rw [hcl]; omega), g (w - 1) (by omega), if_pos (by omega), etl, hE, Option.bind_some, Option.bind_some]
    cases hb : atB e.East y (tat s (c.getD (w - 1) 0)).E
    · rfl
    · rw [if_neg (by decide), hl, Option.bind_some]
      cases (List.range w).all (colE e h (mkR s c) y) <;> rfl
end Gp
set_option linter.unusedVariables false
set_option linter.unusedSimpArgs false
namespace Gp
open Gw Gq
structure JobC (s : List Tile) (C : List Int) (w h : Nat) (e : Edges) (B : List (List Nat)) : Prop where
  set : SetC s C w B
  w1 : 1 ≤ w
  hh : 1 ≤ h ∧ h ≤ 60
  e : EdgeOK e w h
  M : C.length ^ w ≤ 1000000
  len : B.length ≤ 1000000
def fitC (s : List Tile) (w h : Nat) (e : Edges) (c : List Nat) (y : Nat) : Bool := alB e w h (mkR s c) y
theorem JobC.num {s : List Tile} {C : List Int} {w h : Nat} {e : Edges} {B : List (List Nat)} (j : JobC s C w h e B) {c : List Nat} (hc : c ∈ B) : numW C (sideS s c) < C.length ^ w ∧ numW C (sideN s c) < C.length ^ w := by
  obtain ⟨lS, lN, mS, mN⟩ := j.set.mem hc
  have n1 := numW_lt C _ mS
  have n2 := numW_lt C _ mN
  rw [lS] at n1
  rw [lN] at n2
  exact ⟨n1, n2⟩
theorem getR {s : List Tile} {C : List Int} {B : List (List Nat)} {i : Nat} (hi : i < B.length) : rdD (B.map (mkF s C)) (i : Int) z_Row_ref02 = mkF s C B[i] := by
  rw [rdD_get (show i < (B.map (mkF s C)).length by rw [List.length_map]; exact hi), List.getElem_map]
end Gp
set_option linter.unusedVariables false
set_option linter.unusedSimpArgs false
namespace Gp
open Gw Gq
theorem job_of {s : List Tile} {w h : Nat} {e : Edges} (hw : 1 ≤ w ∧ w ≤ 8) (hh : 1 ≤ h ∧ h ≤ 60) (he : EdgeOK e w h) (hpow : (colsS s).length ^ w ≤ 1000000) (hrow : s.length ^ w ≤ 1000000) : JobC s (colsS s) w h e (rowsL s w []) :=
  ⟨⟨hw.2, colsS_col s, fun c hc => (mem_rowsL s w c).1 hc⟩, hw.1, hh, he, hpow, Nat.le_trans (rowsL_len s w []) hrow⟩
theorem edge_of {e : Edges} {w h : Nat} (he : sidesB e w h = true) : EdgeOK e w h := by
  unfold sidesB at he
  simp only [Bool.and_eq_true, Bool.or_eq_true, decide_eq_true_eq] at he
  exact ⟨he.1.1.1.imp id (fun h => by omega), he.1.1.2.imp id (fun h => by omega), he.1.2.imp id (fun h => by omega), he.2.imp id (fun h => by omega)⟩
end Gp
set_option linter.unusedVariables false
set_option linter.unusedSimpArgs false
namespace Gp
open Gw Gq
end Gp
set_option linter.unusedVariables false
set_option linter.unusedSimpArgs false
namespace Gp
open Gw Gq
theorem awake02_ok (k : Nat) : law02_awake (k + 300) = some true := by kernel_rfl
/-! ### the first filling of a rectangle -/
theorem fault_eq {s : List Tile} (hl : s.length ≤ 9223372036854775807) (w h : Int) (e : Edges) {k : Nat} (hk : 2002 < k) : ref02_Fault k s w h e = some (if validT s = true then (if (1 ≤ w ∧ w ≤ 8 ∧ 1 ≤ h ∧ h ≤ 60) then (if sidesB e w h = true then 0 else 2) else 2) else 1) := by
  have hs : ∀ (l : List Int) (n : Int), (((l.length : Int) == 0) || ((l.length : Int) == n)) = (decide (l.length = 0) || decide ((l.length : Int) = n)) := fun l n => by
    rw [Bool.eq_iff_iff]; simp
  unfold ref02_Fault ref02_side
  rw [valid01 s hk hl, Option.bind_some]
  cases hv : validT s
  · rfl
  rw [if_neg (by decide), if_pos rfl]
  by_cases hr : 1 ≤ w ∧ w ≤ 8 ∧ 1 ≤ h ∧ h ≤ 60
  rotate_left
  · rw [if_pos (by simp; omega), if_neg hr]
  rw [if_neg (by simp; omega), if_pos hr, hs, hs, hs, hs]
  unfold sidesB
  cases (decide (e.North.length = 0) || decide ((e.North.length : Int) = w)) <;> cases (decide (e.South.length = 0) || decide ((e.South.length : Int) = w)) <;> cases (decide (e.West.length = 0) || decide ((e.West.length : Int) = h)) <;> cases (decide (e.East.length = 0) || decide ((e.East.length : Int) = h)) <;> rfl
theorem heavy02 (s : List Tile) (hl : s.length ≤ 1000) {w : Nat} (hw : w ≤ 1000) {k : Nat} (hk : 10000 < k) : ∃ b, law02_heavy k s w = some b ∧ (b = false → s.length ≤ 60 ∧ (colsS s).length ^ w ≤ 1500 ∧ s.length ^ w ≤ 40000) := by
  unfold law02_heavy
  by_cases h : s.length ≤ 60
  · have h0 : decide ((s.length : Int) > 60) = false := decide_eq_false (by omega)
    rw [h0, if_neg (by decide), light_some s hl hw hk]
    refine ⟨_, rfl, fun hb => ?_⟩
    rw [Bool.not_eq_false', Bool.and_eq_true, decide_eq_true_eq, decide_eq_true_eq] at hb
    omega
  · have h0 : decide ((s.length : Int) > 60) = true := decide_eq_true (by omega)
    rw [h0, if_pos rfl]
    exact ⟨true, rfl, fun h => by cases h⟩
end Gp
set_option linter.unusedVariables false
set_option linter.unusedSimpArgs false
namespace Gq
open Gw
/-! ### sums, and the numbers of ways up and down -/
def sm {α : Type} (l : List α) (f : α → Nat) : Nat := (l.map f).sum
theorem sm_nil {α : Type} (f : α → Nat) : sm [] f = 0 := rfl
theorem sm_cons {α : Type} (a : α) (l : List α) (f : α → Nat) : sm (a :: l) f = f a + sm l f := by simp [sm]
theorem sm_append {α : Type} (a b : List α) (f : α → Nat) : sm (a ++ b) f = sm a f + sm b f := by simp [sm]
theorem sm_congr {α : Type} {l : List α} {f g : α → Nat} (h : ∀ x ∈ l, f x = g x) : sm l f = sm l g := by
  unfold sm; rw [List.map_congr_left h]
theorem sm_map {α β : Type} (g : α → β) (f : β → Nat) (l : List α) : sm (l.map g) f = sm l fun x => f (g x) := by
  simp [sm, List.map_map, Function.comp_def]
theorem sm_zero {α : Type} (l : List α) : sm l (fun _ => 0) = 0 := by
  induction l with
  | nil => rfl
  | cons a l ih => rw [sm_cons, ih]
theorem sm_add {α : Type} (l : List α) (f g : α → Nat) : sm l (fun x => f x + g x) = sm l f + sm l g := by
  induction l with
  | nil => rfl
  | cons a l ih => rw [sm_cons, sm_cons, sm_cons, ih]; omega
theorem sm_mul {α : Type} (l : List α) (f : α → Nat) (c : Nat) : sm l (fun x => c * f x) = c * sm l f := by
  induction l with
  | nil => rfl
  | cons a l ih => rw [sm_cons, sm_cons, ih, Nat.mul_add]
theorem sm_swap {α β : Type} (a : List α) (b : List β) (f : α → β → Nat) : sm a (fun x => sm b fun y => f x y) = sm b fun y => sm a fun x => f x y := by
  induction a with
  | nil => rw [sm_nil]; exact (sm_zero b).symm
  | cons x a ih =>
    rw [sm_cons, ih, ← sm_add]
    exact sm_congr fun y _ => (sm_cons x a fun x => f x y).symm
theorem sm_point (M x v : Nat) (h : x < M) : sm (List.range M) (fun y => if y = x then v else 0) = v := by
  induction M with
  | zero => omega
  | succ M ih =>
    rw [List.range_succ, sm_append, sm_cons, sm_nil]
    by_cases hx : x = M
    · subst hx
      rw [if_pos rfl, sm_congr (g := fun _ => 0) (fun y hy => if_neg (by have := List.mem_range.1 hy; omega)), sm_zero]; omega
    · rw [ih (by omega), if_neg (fun e => hx e.symm)]; omega
def upC {α κ : Type} [DecidableEq κ] (B : List α) (S N : α → κ) (ft : α → Nat → Bool) (h : Nat) : Nat → κ → Nat
  | 0, _ => 1
  | n + 1, x => sm B fun c => if (decide (S c = x) && ft c (h - 1 - n)) = true then upC B S N ft h n (N c) else 0
def dnC {α κ : Type} [DecidableEq κ] (B : List α) (S N : α → κ) (ft : α → Nat → Bool) : Nat → κ → Nat
  | 0, _ => 1
  | y + 1, x => sm B fun c => if (decide (N c = x) && ft c y) = true then dnC B S N ft y (S c) else 0
def midC {α κ : Type} [DecidableEq κ] (B : List α) (S N : α → κ) (ft : α → Nat → Bool) (h y : Nat) : Nat := sm B fun c => if ft c y = true then dnC B S N ft y (S c) * upC B S N ft h (h - 1 - y) (N c) else 0
theorem mid_succ {α κ : Type} [DecidableEq κ] (B : List α) (S N : α → κ) (ft : α → Nat → Bool) {h y : Nat} (hy : y + 1 < h) : midC B S N ft h (y + 1) = midC B S N ft h y := by
  obtain ⟨m, hm⟩ : ∃ m, h - 1 - (y + 1) = m := ⟨_, rfl⟩
  have e1 : h - 1 - y = m + 1 := by omega
  have e2 : h - 1 - m = y + 1 := by omega
  unfold midC
  rw [hm, e1]
  have l : ∀ c, (if ft c (y + 1) = true then dnC B S N ft (y + 1) (S c) * upC B S N ft h m (N c) else 0) = sm B fun q => if (ft q y && (ft c (y + 1) && decide (S c = N q))) = true then dnC B S N ft y (S q) * upC B S N ft h m (N c) else 0 := fun c => by
    cases ft c (y + 1)
    · rw [if_neg (by decide)]
      rw [sm_congr (g := fun _ => 0) (fun q _ => if_neg (by simp)), sm_zero]
    · rw [if_pos rfl, dnC, Nat.mul_comm, ← sm_mul]
      refine sm_congr fun q _ => ?_
      by_cases he : S c = N q
      · have : N q = S c := he.symm
        cases ft q y <;> simp [he, Nat.mul_comm]
      · have : ¬ N q = S c := fun e => he e.symm
        cases ft q y <;> simp [he, this]
  have r : ∀ q, (if ft q y = true then dnC B S N ft y (S q) * upC B S N ft h (m + 1) (N q) else 0) = sm B fun c => if (ft q y && (ft c (y + 1) && decide (S c = N q))) = true then dnC B S N ft y (S q) * upC B S N ft h m (N c) else 0 := fun q => by
    cases ft q y
    · rw [if_neg (by decide)]
      rw [sm_congr (g := fun _ => 0) (fun q _ => if_neg (by simp)), sm_zero]
    · rw [if_pos rfl, upC, ← sm_mul, e2]
      refine sm_congr fun c _ => ?_
      by_cases he : S c = N q
      · cases ft c (y + 1) <;> simp [he]
      · cases ft c (y + 1) <;> simp [he]
  rw [sm_congr (fun c _ => l c), sm_congr (fun q _ => r q), sm_swap]
theorem mid_const {α κ : Type} [DecidableEq κ] (B : List α) (S N : α → κ) (ft : α → Nat → Bool) {h : Nat} : ∀ y, y < h → midC B S N ft h y = midC B S N ft h 0
  | 0, _ => rfl
  | y + 1, hy => by rw [mid_succ B S N ft hy, mid_const B S N ft y (by omega)]
theorem dnC_map {α β κ : Type} [DecidableEq κ] (g : α → β) (B : List α) (S N : β → κ) (ft : β → Nat → Bool) : ∀ (y : Nat) (x : κ), dnC (B.map g) S N ft y x = dnC B (fun c => S (g c)) (fun c => N (g c)) (fun c => ft (g c)) y x
  | 0, x => rfl
  | y + 1, x => by
    rw [dnC, dnC, sm_map]
    exact sm_congr fun c _ => by rw [dnC_map g B S N ft y]
theorem dnC_key {α κ μ : Type} [DecidableEq κ] [DecidableEq μ] (B : List α) (S N : α → κ) (S' N' : α → μ) (ft : α → Nat → Bool) (hk : ∀ c ∈ B, ∀ d ∈ B, S c = N d ↔ S' c = N' d) : ∀ (y : Nat) (d : α), d ∈ B → dnC B S N ft y (S d) = dnC B S' N' ft y (S' d)
  | 0, d, _ => rfl
  | y + 1, d, hd => by
    rw [dnC, dnC]
    refine sm_congr fun c hc => ?_
    rw [dnC_key B S N S' N' ft hk y c hc]
    have : decide (N c = S d) = decide (N' c = S' d) := by
      rw [Bool.eq_iff_iff, decide_eq_true_eq, decide_eq_true_eq]
      exact ⟨fun e => ((hk d hd c hc).1 e.symm).symm, fun e => ((hk d hd c hc).2 e.symm).symm⟩
    rw [this]
theorem upC_key {α κ μ : Type} [DecidableEq κ] [DecidableEq μ] (B : List α) (S N : α → κ) (S' N' : α → μ) (ft : α → Nat → Bool) (h : Nat) (hk : ∀ c ∈ B, ∀ d ∈ B, S c = N d ↔ S' c = N' d) : ∀ (n : Nat) (d : α), d ∈ B → upC B S N ft h n (N d) = upC B S' N' ft h n (N' d)
  | 0, d, _ => rfl
  | n + 1, d, hd => by
    rw [upC, upC]
    refine sm_congr fun c hc => ?_
    rw [upC_key B S N S' N' ft h hk n c hc]
    have : decide (S c = N d) = decide (S' c = N' d) := by
      rw [Bool.eq_iff_iff, decide_eq_true_eq, decide_eq_true_eq]
      exact hk c hc d hd
    rw [this]
theorem tot_up {α κ : Type} [DecidableEq κ] (B : List α) (S N : α → κ) (ft : α → Nat → Bool) {h : Nat} (hh : 1 ≤ h) : midC B S N ft h 0 = sm B fun c => if ft c 0 = true then upC B S N ft h (h - 1) (N c) else 0 := by
  unfold midC
  exact sm_congr fun c _ => by rw [dnC, Nat.one_mul, Nat.sub_zero]
theorem tot_dn {α κ : Type} [DecidableEq κ] (B : List α) (S N : α → κ) (ft : α → Nat → Bool) {h : Nat} (hh : 1 ≤ h) : midC B S N ft h 0 = sm B fun c => if ft c (h - 1) = true then dnC B S N ft (h - 1) (S c) else 0 := by
  rw [← mid_const B S N ft (h - 1) (by omega)]
  unfold midC
  exact sm_congr fun c _ => by rw [show h - 1 - (h - 1) = 0 by omega, upC, Nat.mul_one]
/-! ### numbers that stay below a bound -/
def sat (v : Nat) : Nat := min v 1152921504606846977
theorem sat_le (v : Nat) : sat v ≤ 1152921504606846977 := Nat.min_le_right ..
theorem sat_add (a b : Nat) : minI (w64 ((sat a : Int) + (sat b : Int))) 1152921504606846977 = ((sat (a + b) : Nat) : Int) := by
  have h1 := sat_le a
  have h2 := sat_le b
  rw [w64_id (by omega) (by omega)]
  unfold minI sat
  split <;> omega
theorem sat_pos (a : Nat) : 0 < sat a ↔ 0 < a := by unfold sat; omega
def sumV {κ : Type} (m : List (κ × Nat)) : Nat := sm m Prod.snd
def satM {κ : Type} (m : List (κ × Nat)) : List (κ × Int) := m.map fun p => (p.1, ((sat p.2 : Nat) : Int))
theorem satM_get {κ : Type} [DecidableEq κ] (x : κ) : ∀ m : List (κ × Nat), mget x 0 (satM m) = ((sat (mget x 0 m) : Nat) : Int)
  | [] => rfl
  | p :: r => by
    show (if x = p.1 then ((sat p.2 : Nat) : Int) else mget x 0 (satM r)) = _
    rw [mget]
    by_cases h : x = p.1
    · rw [if_pos h, if_pos h]
    · rw [if_neg h, if_neg h, satM_get x r]
theorem satM_put {κ : Type} [DecidableEq κ] (x : κ) (v : Nat) : ∀ m : List (κ × Nat), mput x ((sat v : Nat) : Int) (satM m) = satM (mput x v m)
  | [] => rfl
  | p :: r => by
    show (if x = p.1 then (x, ((sat v : Nat) : Int)) :: satM r else (p.1, ((sat p.2 : Nat) : Int)) :: mput x ((sat v : Nat) : Int) (satM r)) = _
    rw [mput]
    by_cases h : x = p.1
    · rw [if_pos h, if_pos h]; rfl
    · rw [if_neg h, if_neg h, satM_put x v r]; rfl
theorem sumV_put {κ : Type} [DecidableEq κ] (x : κ) (v : Nat) : ∀ m : List (κ × Nat), sumV (mput x (mget x 0 m + v) m) = sumV m + v
  | [] => by simp [mput, mget, sumV, sm]
  | p :: r => by
    rw [mput, mget]
    by_cases h : x = p.1
    · rw [if_pos h, if_pos h]
      simp only [sumV, sm_cons]; omega
    · rw [if_neg h, if_neg h]
      have := sumV_put x v r
      simp only [sumV, sm_cons] at this ⊢; omega
def addM {α κ : Type} [DecidableEq κ] (key : α → κ) (v : α → Nat) (q : α → Bool) (m : List (κ × Nat)) (a : α) : List (κ × Nat) := if (decide (0 < v a) && q a) = true then mput (key a) (mget (key a) 0 m + v a) m else m
theorem addM_get {α κ : Type} [DecidableEq κ] (key : α → κ) (v : α → Nat) (q : α → Bool) (x : κ) : ∀ (l : List α) (m : List (κ × Nat)), mget x 0 (l.foldl (addM key v q) m) = mget x 0 m + sm l fun a => if (decide (key a = x) && q a) = true then v a else 0
  | [], m => rfl
  | a :: l, m => by
    rw [List.foldl_cons, addM_get key v q x l, sm_cons]
    unfold addM
    by_cases hv : 0 < v a
    · cases q a
      · simp
      · simp only [hv, decide_true, Bool.and_true, if_true, Gq.mget_mput]
        by_cases hx : x = key a
        · subst hx; simp; omega
        · have : ¬ key a = x := fun e => hx e.symm
          simp [hx, this]
    · have h0 : v a = 0 := by omega
      simp [h0]
theorem addM_sum {α κ : Type} [DecidableEq κ] (key : α → κ) (v : α → Nat) (q : α → Bool) : ∀ (l : List α) (m : List (κ × Nat)), sumV (l.foldl (addM key v q) m) = sumV m + sm l fun a => if q a = true then v a else 0
  | [], m => rfl
  | a :: l, m => by
    rw [List.foldl_cons, addM_sum key v q l, sm_cons]
    unfold addM
    by_cases hv : 0 < v a
    · cases q a
      · simp
      · simp only [hv, decide_true, Bool.and_true, if_true, sumV_put]; omega
    · have h0 : v a = 0 := by omega
      simp [h0]
theorem foldM_sat {κ : Type} (f : Int → Int → Option Int) (hf : ∀ x v, f x v = some (minI (w64 (x + v)) 1152921504606846977)) : ∀ (m : List (κ × Nat)) (a : Nat), ((satM m).map Prod.snd).foldlM f ((sat a : Nat) : Int) = some ((sat (a + sumV m) : Nat) : Int)
  | [], a => rfl
  | p :: r, a => by
    show ((f ((sat a : Nat) : Int) ((sat p.2 : Nat) : Int)).bind fun b => ((satM r).map Prod.snd).foldlM f b) = _
    rw [hf, sat_add, Option.bind_some, foldM_sat f hf r, Nat.add_assoc]
    rfl
theorem mapfold_sat {κ : Type} (f : Int → Int → Option Int) (hf : ∀ x v, f x v = some (minI (w64 (x + v)) 1152921504606846977)) (m : List (κ × Nat)) : mapfold (satC 1152921504606846977) f 0 ((satM m).map Prod.snd) = some ((sat (sumV m) : Nat) : Int) := by
  unfold mapfold
  have : satC 1152921504606846977 0 ((satM m).map Prod.snd) = true := by
    unfold satC
    rw [Bool.and_eq_true]
    refine ⟨by decide, ?_⟩
    rw [List.all_eq_true]
    intro v hv
    obtain ⟨p, hp, rfl⟩ := List.mem_map.1 hv
    obtain ⟨q, hq, rfl⟩ := List.mem_map.1 hp
    have := sat_le q.2
    exact decide_eq_true (by show (0 : Int) ≤ ((sat q.2 : Nat) : Int) ∧ ((sat q.2 : Nat) : Int) ≤ _; omega)
  rw [if_pos this]
  have := foldM_sat f hf m 0
  rw [Nat.zero_add] at this
  exact this
end Gq
set_option linter.unusedVariables false
set_option linter.unusedSimpArgs false
namespace Gp
open Gw Gq
/-! ### the program's count -/
theorem mod_pos (x : Int) (n : Nat) (hx : x = ((sat n : Nat) : Int)) : decide (x > 0) = decide (0 < n) := by
  have := sat_pos n
  rw [hx, Bool.eq_iff_iff, decide_eq_true_eq, decide_eq_true_eq]; omega
theorem count_l2 {e : Edges} {w h : Nat} (he : EdgeOK e w h) (hw : w ≤ 8) (hh : h ≤ 1000) (R : List Row) (hR : R.length ≤ 1000000) {y : Nat} (hy : y < h) (E : List (A8_Int × Nat)) (hE : 0 < y → ∀ x, mget x 0 E = dnC R Row.South Row.North (alB e w h) y x) {k : Nat} (hk : R.length + w + 1 < k) :
    fill_Count.l2 k [] 0 e ⟨R, w, h, e⟩ (satM E) (y : Int) = some (satM (R.foldl (addM Row.North (fun r => dnC R Row.South Row.North (alB e w h) y r.South) (fun r => alB e w h r y)) [])) := by
  have hl := loop_list (F := fun k i (m : List (A8_Int × Nat)) => fill_Count.l2 k (satM m) i e ⟨R, w, h, e⟩ (satM E) (y : Int)) R (addM Row.North (fun r => dnC R Row.South Row.North (alB e w h) y r.South) (fun r => alB e w h r y)) (w + 1) (fun _ _ => True) satM (fun k i m hi hk _ => by
    refine ⟨?_, trivial⟩
    show fill_Count.l2 (k + 1) (satM m) i e ⟨R, w, h, e⟩ (satM E) (y : Int) = _
    have hwi : w64 ((i : Int) + 1) = ((i + 1 : Nat) : Int) := by rw [w64_id (by omega) (by omega)]; rfl
    have hal : ∀ r, fill_job_allows k (Job.mk R w h e) r (y : Int) = some (alB e w h r y) := fun r => allows_eq he hw hh R r hy (by omega)
    rw [fill_Count.l2, if_pos (by simpa using hi), if_pos (by simp; omega)]
    simp only [hal, rdD_get hi, hwi, Option.bind_some]
    have hn : (if decide ((y : Int) > 0) = true then some (mget R[i].South 0 (satM E)) else some 1) = some ((sat (dnC R Row.South Row.North (alB e w h) y R[i].South) : Nat) : Int) := by
      by_cases h0 : 0 < y
      · rw [if_pos (by simpa using h0), satM_get, hE h0]
      · have : y = 0 := by omega
        subst this
        rw [if_neg (by decide)]; rfl
    rw [hn, Option.bind_some, mod_pos _ _ rfl]
    unfold addM
    cases hd : decide (0 < dnC R Row.South Row.North (alB e w h) y R[i].South)
    · simp
    · cases ha : alB e w h R[i] y
      · simp [ha]
      · rw [if_pos rfl, Option.bind_some, if_pos rfl]
        unfold fill_Count_1
        rw [satM_get, sat_add, Option.bind_some, satM_put, Option.bind_some]
        simp [ha]) (fun k m _ => by
    show fill_Count.l2 (k + 1) (satM m) R.length e ⟨R, w, h, e⟩ (satM E) (y : Int) = _
    rw [fill_Count.l2, if_neg (by simp)]) [] trivial k (by omega)
  exact hl
theorem count_l1 {e : Edges} {w h : Nat} (he : EdgeOK e w h) (hw : w ≤ 8) (hh : h ≤ 1000) (R : List Row) (hR : R.length ≤ 1000000) : ∀ (d y : Nat) (E : List (A8_Int × Nat)) (k : Nat), y + d = h → (0 < y → (∀ x, mget x 0 E = dnC R Row.South Row.North (alB e w h) y x) ∧ sumV E = sm R fun r => if alB e w h r (y - 1) = true then dnC R Row.South Row.North (alB e w h) (y - 1) r.South else 0) → R.length + w + d + 3 < k →
    ∃ E', fill_Count.l1 k (satM E) (y : Int) (h : Int) e ⟨R, w, h, e⟩ = some (satM E') ∧ (0 < h → (∀ x, mget x 0 E' = dnC R Row.South Row.North (alB e w h) h x) ∧ sumV E' = sm R fun r => if alB e w h r (h - 1) = true then dnC R Row.South Row.North (alB e w h) (h - 1) r.South else 0)
  | 0, y, E, k, hd, hE, hk => by
    obtain ⟨k, rfl⟩ : ∃ m, k = m + 1 := ⟨k - 1, by omega⟩
    have : y = h := by omega
    subst this
    exact ⟨E, by rw [fill_Count.l1, if_neg (by simp)], hE⟩
  | d + 1, y, E, k, hd, hE, hk => by
    obtain ⟨k, rfl⟩ : ∃ m, k = m + 1 := ⟨k - 1, by omega⟩
    have hwy : w64 ((y : Int) + 1) = ((y + 1 : Nat) : Int) := by rw [w64_id (by omega) (by omega)]; rfl
    rw [fill_Count.l1, if_pos (by simp; omega), count_l2 he hw hh R hR (by omega) E (fun h0 => (hE h0).1) (by omega), Option.bind_some, hwy]
    refine count_l1 he hw hh R hR d (y + 1) _ k (by omega) (fun _ => ⟨fun x => ?_, ?_⟩) (by omega)
    · rw [addM_get, dnC]
      show 0 + _ = _
      rw [Nat.zero_add]
    · rw [addM_sum]
      show 0 + _ = _
      rw [Nat.zero_add]; rfl
def waysN (s : List Tile) (w h : Nat) (e : Edges) : Nat := midC (rowsL s w []) (sideS s) (sideN s) (fitC s w h e) h 0
theorem allR_C (s : List Tile) (w : Nat) : allR s w = (rowsL s w []).map (mkR s) := rfl
theorem ways_dn {s : List Tile} {w h : Nat} (e : Edges) (hw : 1 ≤ w ∧ w ≤ 8) (hh : 1 ≤ h) : (sm (allR s w) fun r => if alB e w h r (h - 1) = true then dnC (allR s w) Row.South Row.North (alB e w h) (h - 1) r.South else 0) = waysN s w h e := by
  unfold waysN
  rw [tot_dn _ _ _ _ hh, allR_C, sm_map]
  refine sm_congr fun c hc => ?_
  have hB : ∀ c ∈ rowsL s w [], RowOK s w c := fun c hc => (mem_rowsL s w c).1 hc
  rw [dnC_map]
  have hk : ∀ c ∈ rowsL s w [], ∀ d ∈ rowsL s w [], (mkR s c).South = (mkR s d).North ↔ sideS s c = sideN s d := fun c hc d hd => by
    show wordOf (sideS s c) = wordOf (sideN s d) ↔ _
    have l1 := (hB c hc).len
    have l2 := (hB d hd).len
    refine ⟨fun e => (wordOf_inj ?_ ?_).1 e, fun e => by rw [e]⟩ <;> simp [sideS, sideN] <;> omega
  rw [dnC_key (rowsL s w []) (fun c => (mkR s c).South) (fun c => (mkR s c).North) (sideS s) (sideN s) _ hk (h - 1) c hc]
  rfl
def countX (s : List Tile) (w h : Nat) (e : Edges) : Int × Int := if waysN s w h e ≤ 1152921504606846976 then (((waysN s w h e : Nat) : Int), 0) else (0, 4)
theorem count_ok (set : List Tile) (w h : Nat) (e : Edges) (hv : validT set = true) (hw : 1 ≤ w ∧ w ≤ 8) (hh : 1 ≤ h ∧ h ≤ 60) (he : sidesB e w h = true) (hf : fewB set.length w = true) {k : Nat} (hk : 10000 < k) : fill_Count k set w h e = some (countX set w h e) := by
  have hl := valid_len hv
  have hp := max_pow hf
  have hRl := allR_len set w
  have heo : EdgeOK e w h := edge_of he
  obtain ⟨j, rfl⟩ : ∃ j, k = j + 5 := ⟨k - 5, by omega⟩
  unfold fill_Count fill_begin
  rw [tile_valid set (by omega) (by omega), hv, Option.bind_some, if_neg (by simp), if_neg (by simp; omega), begin_l0, he, few_eq set w (by omega) (by omega) (by omega), hf, all_eq set w hw.1 hw.2 (by omega) (by omega) (by omega)]
  simp only [if_true, Option.bind_some, sumb, Bool.not_true, Bool.false_eq_true, if_false, optM, bne_self_eq_false]
  obtain ⟨E', e1, e2⟩ := count_l1 heo hw.2 (by omega) (allR set w) (by omega) h 0 [] (j + 5) (by omega) (fun h0 => by omega) (by omega)
  have e1 : fill_Count.l1 (j + 5) ([] : List (A8_Int × Int)) 0 (h : Int) e ⟨allR set w, w, h, e⟩ = some (satM E') := e1
  rw [e1, Option.bind_some, mapfold_sat _ (fun x v => by unfold fill_Count_1; rfl), Option.bind_some, (e2 (by omega)).2, ways_dn e hw hh.1]
  unfold countX sat
  by_cases hs : waysN set w h e ≤ 1152921504606846976
  · rw [if_pos hs, if_neg (by simp; omega), Nat.min_eq_left (by omega)]
  · rw [if_neg hs, if_pos (by simp; omega)]
theorem count_bad (set : List Tile) (w h : Int) (e : Edges) (hl : set.length ≤ 9223372036854775807) {k : Nat} (hk : 10000 < k) :
    (validT set = false → fill_Count k set w h e = some (0, 1)) ∧ (validT set = true → ¬ (1 ≤ w ∧ w ≤ 8 ∧ 1 ≤ h ∧ h ≤ 60) → fill_Count k set w h e = some (0, 2)) ∧
    (validT set = true → (1 ≤ w ∧ w ≤ 8 ∧ 1 ≤ h ∧ h ≤ 60) → sidesB e w h = false → fill_Count k set w h e = some (0, 2)) ∧ (validT set = true → (1 ≤ w ∧ w ≤ 8 ∧ 1 ≤ h ∧ h ≤ 60) → sidesB e w h = true → fewB set.length w.toNat = false → fill_Count k set w h e = some (0, 4)) := by
  obtain ⟨j, rfl⟩ : ∃ j, k = j + 5 := ⟨k - 5, by omega⟩
  unfold fill_Count fill_begin
  rw [tile_valid set (by omega) hl]
  refine ⟨fun hv => ?_, fun hv hn => ?_, fun hv hn hs => ?_, fun hv hn hs hf => ?_⟩
  · rw [hv]; rfl
  · rw [hv, Option.bind_some, if_neg (by simp), if_pos (by simp; omega)]; rfl
  · rw [hv, Option.bind_some, if_neg (by simp), if_neg (by simp; omega), begin_l0, hs]; rfl
  · have h8 := valid_len hv
    have hfe := few_eq set w.toNat (by omega) (by omega) (k := j + 5) (by omega)
    rw [Int.toNat_of_nonneg (by omega)] at hfe
    rw [hv, Option.bind_some, if_neg (by simp), if_neg (by simp; omega), begin_l0, hs, hfe, hf]; rfl
/-! ### the reference's count -/
def numsN (M : Nat) (P : Nat → Nat) : List Int := (List.range M).map fun x => ((sat (P x) : Nat) : Int)
theorem numsN_len (M : Nat) (P : Nat → Nat) : (numsN M P).length = M := by simp [numsN]
theorem numsN_get (M : Nat) (P : Nat → Nat) {x : Nat} (h : x < M) : rdD (numsN M P) (x : Int) 0 = ((sat (P x) : Nat) : Int) := by
  rw [rdD_get (by rw [numsN_len]; exact h)]; simp [numsN]
theorem numsN_zero (M : Nat) : List.replicate M (0 : Int) = numsN M fun _ => 0 := by
  apply List.ext_getElem
  · simp [numsN]
  · intro i h1 h2; simp [numsN, sat]
theorem numsN_set (M : Nat) (P : Nat → Nat) (x v : Nat) : (numsN M P).set x ((sat v : Nat) : Int) = numsN M fun y => if x = y then v else P y := by
  apply List.ext_getElem
  · simp [numsN]
  · intro i h1 h2
    rw [List.getElem_set]
    simp only [numsN, List.getElem_map, List.getElem_range]
    by_cases h : x = i
    · rw [if_pos h, if_pos h]
    · rw [if_neg h, if_neg h]
theorem refC_l1 {s : List Tile} {C : List Int} {w h : Nat} {e : Edges} {B : List (List Nat)} (j : JobC s C w h e B) (y : Nat) (hy : y < h) (A : List Int) (U : Nat → Nat) (hU : y + 1 < h → A = numsN (C.length ^ w) U) (hU1 : y + 1 = h → ∀ x, U x = 1) {k : Nat} (hk : B.length + w + 1 < k) :
    ref02_Count.l1 k (List.replicate (C.length ^ w) (0 : Int)) 0 s h e (B.map (mkF s C)) A y = some (numsN (C.length ^ w) fun x => sm B fun c => if (decide (numW C (sideS s c) = x) && fitC s w h e c y) = true then U (numW C (sideN s c)) else 0) := by
  obtain ⟨M, hMd⟩ : ∃ M, C.length ^ w = M := ⟨_, rfl⟩
  have hM := j.M
  rw [hMd] at hU hM ⊢
  have hh := j.hh
  have hlen := j.len
  have hwh : w64 ((h : Int) - 1) = ((h - 1 : Nat) : Int) := by rw [w64_id (by omega) (by omega)]; omega
  have := loop_list (F := fun k i (P : Nat → Nat) => ref02_Count.l1 k (numsN M P) i s h e (B.map (mkF s C)) A y) B (fun P c => fun x => P x + if (decide (numW C (sideS s c) = x) && fitC s w h e c y) = true then U (numW C (sideN s c)) else 0) (w + 1) (fun _ _ => True) (fun P => numsN M P) (fun k i P hi hk _ => by
    refine ⟨?_, trivial⟩
    have hwi : w64 ((i : Int) + 1) = ((i + 1 : Nat) : Int) := by rw [w64_id (by omega) (by omega)]; rfl
    have hc := List.getElem_mem hi
    obtain ⟨n1, n2⟩ := j.num hc
    rw [hMd] at n1 n2
    show ref02_Count.l1 (k + 1) (numsN M P) i s h e (B.map (mkF s C)) A y = _
    have hfit := fits_ref C j.e ⟨j.w1, j.set.w8⟩ (by omega : h ≤ 1000) (j.set.row _ hc) hy (k := k) (by omega)
    have hN : (mkF s C B[i]).North = ((numW C (sideN s B[i]) : Nat) : Int) := rfl
    have hS : (mkF s C B[i]).South = ((numW C (sideS s B[i]) : Nat) : Int) := rfl
    rw [ref02_Count.l1, if_pos (by simpa using hi), if_pos (by simp; omega), getR hi, hfit, Option.bind_some, hwi]
    show (Option.bind (if (!fitC s w h e B[i] y) = true then _ else _) _) = ref02_Count.l1 k (numsN M _) _ s h e (B.map (mkF s C)) A y
    cases hb : fitC s w h e B[i] y
    · simp
    · rw [if_neg (by decide), hN, hS, hwh]
      have hn : (if decide ((y : Int) < ((h - 1 : Nat) : Int)) = true then (if 0 ≤ ((numW C (sideN s B[i]) : Nat) : Int) ∧ ((numW C (sideN s B[i]) : Nat) : Int) < (A.length : Int) then some (rdD A ((numW C (sideN s B[i]) : Nat) : Int) 0) else none) else some 1) = some ((sat (U (numW C (sideN s B[i]))) : Nat) : Int) := by
        by_cases hlt : y + 1 < h
        · rw [if_pos (by simp; omega), hU hlt, if_pos (by rw [numsN_len]; omega), numsN_get _ _ n2]
        · rw [if_neg (by simp; omega), hU1 (by omega)]; rfl
      rw [hn, Option.bind_some, if_pos (by rw [numsN_len]; omega), numsN_get _ _ n1, sat_add, Option.bind_some, Int.toNat_natCast, numsN_set]
      congr 2
      funext x
      by_cases hx : numW C (sideS s B[i]) = x
      · simp [hx]
      · simp [hx]) (fun k P _ => by
    show ref02_Count.l1 (k + 1) (numsN M P) B.length s h e (B.map (mkF s C)) A y = _
    rw [ref02_Count.l1, if_neg (by simp)]) (fun _ => 0) trivial k (by omega)
  rw [numsN_zero]
  refine Eq.trans this ?_
  congr 2
  funext x
  have key : ∀ (l : List (List Nat)) (P : Nat → Nat), (l.foldl (fun P c => fun x => P x + if (decide (numW C (sideS s c) = x) && fitC s w h e c y) = true then U (numW C (sideN s c)) else 0) P) x = P x + sm l fun c => if (decide (numW C (sideS s c) = x) && fitC s w h e c y) = true then U (numW C (sideN s c)) else 0 := by
    intro l
    induction l with
    | nil => intro P; rfl
    | cons c l ih => intro P; rw [List.foldl_cons, ih, sm_cons]; omega
  rw [key]; omega
theorem refC_l0 {s : List Tile} {C : List Int} {w h : Nat} {e : Edges} {B : List (List Nat)} (j : JobC s C w h e B) : ∀ (n : Nat) (A : List Int) (k : Nat), n ≤ h → (n < h → A = numsN (C.length ^ w) (upC B (fun c => numW C (sideS s c)) (fun c => numW C (sideN s c)) (fitC s w h e) h (h - n))) → B.length + w + n + 5 < k →
    ∃ A', ref02_Count.l0 k A ((n : Int) - 1) s h e (B.map (mkF s C)) ((C.length ^ w : Nat) : Int) = some A' ∧ A' = numsN (C.length ^ w) (upC B (fun c => numW C (sideS s c)) (fun c => numW C (sideN s c)) (fitC s w h e) h h)
  | 0, A, k, hn, hA, hk => by
    obtain ⟨k, rfl⟩ : ∃ m, k = m + 1 := ⟨k - 1, by omega⟩
    exact ⟨A, by rw [ref02_Count.l0, if_neg (by simp)], hA (by have := j.hh; omega)⟩
  | n + 1, A, k, hn, hA, hk => by
    obtain ⟨k, rfl⟩ : ∃ m, k = m + 1 := ⟨k - 1, by omega⟩
    have hM := j.M
    have e1 : (((n + 1 : Nat) : Int) - 1) = (n : Int) := by omega
    have hwn : w64 ((n : Int) - 1) = (n : Int) - 1 := w64_id (by omega) (by have := j.hh; omega)
    have h1 := refC_l1 j n (by omega) A (upC B (fun c => numW C (sideS s c)) (fun c => numW C (sideN s c)) (fitC s w h e) h (h - (n + 1))) (fun hl => hA hl) (fun he x => by rw [show h - (n + 1) = 0 by omega]; rfl) (k := k) (by omega)
    rw [e1, ref02_Count.l0, if_pos (by simp), if_pos (by omega), Int.toNat_natCast, h1, Option.bind_some, hwn]
    refine refC_l0 j n _ k (by omega) (fun _ => ?_) (by omega)
    congr 1
    funext x
    rw [show h - n = (h - (n + 1)) + 1 by omega, upC]
    refine sm_congr fun c _ => ?_
    rw [show h - 1 - (h - (n + 1)) = n by omega]
theorem refC_l2 (M : Nat) (hM : M ≤ 1000000) (P : Nat → Nat) : ∀ (d i k : Nat) (a : Nat), i + d = M → d < k → ref02_Count.l2 k ((sat a : Nat) : Int) (i : Int) (numsN M P) = some ((sat (a + sm ((List.range M).drop i) P) : Nat) : Int)
  | 0, i, k, a, hd, hk => by
    obtain ⟨k, rfl⟩ : ∃ m, k = m + 1 := ⟨k - 1, by omega⟩
    rw [ref02_Count.l2, if_neg (by rw [numsN_len]; simp; omega), List.drop_eq_nil_of_le (by simp; omega)]; rfl
  | d + 1, i, k, a, hd, hk => by
    obtain ⟨k, rfl⟩ : ∃ m, k = m + 1 := ⟨k - 1, by omega⟩
    have hwi : w64 ((i : Int) + 1) = ((i + 1 : Nat) : Int) := by rw [w64_id (by omega) (by omega)]; rfl
    rw [ref02_Count.l2, if_pos (by rw [numsN_len]; simp; omega), if_pos (by rw [numsN_len]; omega), numsN_get _ _ (by omega), sat_add, hwi, refC_l2 M hM P d (i + 1) k _ (by omega) (by omega), List.drop_eq_getElem_cons (show i < (List.range M).length by simp; omega), sm_cons, List.getElem_range, Nat.add_assoc]
theorem up_total {α : Type} (B : List α) (S N : α → Nat) (ft : α → Nat → Bool) {h : Nat} (hh : 1 ≤ h) {M : Nat} (hS : ∀ c ∈ B, S c < M) : sm (List.range M) (upC B S N ft h h) = midC B S N ft h 0 := by
  obtain ⟨m, rfl⟩ : ∃ m, h = m + 1 := ⟨h - 1, by omega⟩
  rw [tot_up B S N ft hh]
  show sm (List.range M) (fun x => upC B S N ft (m + 1) (m + 1) x) = _
  simp only [upC]
  rw [sm_swap]
  refine sm_congr fun c hc => ?_
  rw [show m + 1 - 1 - m = 0 by omega, show m + 1 - 1 = m by omega]
  cases ft c 0
  · rw [if_neg (by decide), sm_congr (g := fun _ => 0) (fun x _ => if_neg (by simp)), sm_zero]
  · rw [if_pos rfl, sm_congr (g := fun x => if x = S c then upC B S N ft (m + 1) m (N c) else 0) (fun x _ => by
      by_cases hx : S c = x
      · simp [hx]
      · have : ¬ x = S c := fun e => hx e.symm
        simp [hx, this]), sm_point M _ _ (hS c hc)]
theorem ways_num {s : List Tile} {w h : Nat} {e : Edges} (hw : 1 ≤ w ∧ w ≤ 8) (hh : 1 ≤ h ∧ h ≤ 60) (he : EdgeOK e w h) (hpow : (colsS s).length ^ w ≤ 1000000) (hrow : s.length ^ w ≤ 1000000) : midC (rowsL s w []) (fun c => numW (colsS s) (sideS s c)) (fun c => numW (colsS s) (sideN s c)) (fitC s w h e) h 0 = waysN s w h e := by
  have j := job_of (e := e) hw hh he hpow hrow
  unfold waysN
  rw [tot_up _ _ _ _ hh.1, tot_up _ _ _ _ hh.1]
  refine sm_congr fun c hc => ?_
  rw [upC_key (rowsL s w []) (sideS s) (sideN s) (fun c => numW (colsS s) (sideS s c)) (fun c => numW (colsS s) (sideN s c)) _ h (fun c hc d hd => ?_) (h - 1) c hc]
  obtain ⟨lS, lN, mS, mN⟩ := j.set.mem hc
  obtain ⟨lS', lN', mS', mN'⟩ := j.set.mem hd
  exact ⟨fun e => by rw [e], fun e => numW_inj _ _ _ (by omega) mS mN' e⟩
theorem refCount_eq (s : List Tile) {w h : Nat} {e : Edges} (hl : s.length ≤ 1000) (hw : 1 ≤ w ∧ w ≤ 8) (hh : 1 ≤ h ∧ h ≤ 60) (he : EdgeOK e w h) (hpow : (colsS s).length ^ w ≤ 1000000) (hrow : s.length ^ w ≤ 1000000) {k : Nat} (hk : 2100000 < k) : ref02_Count k s w h e = some ((sat (waysN s w h e) : Nat) : Int) := by
  have j := job_of (e := e) hw hh he hpow hrow
  obtain ⟨_, h2, _⟩ := colsS_spec s
  have hlen := j.len
  have hw1 : w64 ((h : Int) - 1) = (h : Int) - 1 := w64_id (by omega) (by omega)
  unfold ref02_Count
  rw [rows_ref s w hl hpow hrow (by omega) (by omega), Option.bind_some, colours_eq s (by omega) (by omega), Option.bind_some, power_eq _ w (by omega) (by omega) (by omega), Option.bind_some, Nat.min_eq_left hpow, hw1]
  obtain ⟨A', a1, a2⟩ := refC_l0 j h [] k (Nat.le_refl _) (fun h0 => by omega) (by omega)
  rw [a1, Option.bind_some, a2]
  have := refC_l2 ((colsS s).length ^ w) hpow (upC (rowsL s w []) (fun c => numW (colsS s) (sideS s c)) (fun c => numW (colsS s) (sideN s c)) (fitC s w h e) h h) ((colsS s).length ^ w) 0 k 0 (by omega) (by omega)
  rw [List.drop_zero, Nat.zero_add, up_total _ _ _ _ hh.1 (fun c hc => (j.num hc).1), ways_num hw hh he hpow hrow] at this
  have this : ref02_Count.l2 k 0 0 _ = _ := this
  rw [this]; rfl
theorem law02_FillCounts_pure : ∀ (p0 : List Tile) (p1 : Int) (p2 : Int) (p3 : Edges), ((∀ x ∈ p0, ok_Tile x) ∧ p0.length ≤ Go.maxLen) → (ok64 p1) → (ok64 p2) → (ok_Edges p3) → ∃ k, law02_FillCounts k p0 p1 p2 p3 = some true := by
  intro s a b e hs _ _ _
  have hl : s.length ≤ 9223372036854775807 := hs.2
  refine ⟨3000000, ?_⟩
  have aw : law02_awake 3000000 = some true := awake02_ok 2999700
  unfold law02_FillCounts law02_wide
  rw [Option.bind_some]
  split
  · rw [aw]; rfl
  rw [fault_eq hl a b e (by omega), Option.bind_some]
  obtain ⟨b1, b2, b3, b4⟩ := count_bad s a b e hl (k := 3000000) (by omega)
  cases hv : validT s
  · rw [if_neg (show ¬ (false = true) by decide), if_pos (by decide), b1 hv, Option.bind_some, if_pos (by decide), aw]; rfl
  rw [if_pos rfl]
  by_cases hr : 1 ≤ a ∧ a ≤ 8 ∧ 1 ≤ b ∧ b ≤ 60
  rotate_left
  · rw [if_neg hr, if_pos (by decide), b2 hv hr, Option.bind_some, if_pos (by decide), aw]; rfl
  rw [if_pos hr]
  cases hsd : sidesB e a b
  · rw [if_neg (show ¬ (false = true) by decide), if_pos (by decide), b3 hv hr hsd, Option.bind_some, if_pos (by decide), aw]; rfl
  rw [if_pos rfl, if_neg (by decide)]
  have hl1 := valid_len hv
  obtain ⟨w, rfl⟩ : ∃ w : Nat, a = w := ⟨a.toNat, by omega⟩
  obtain ⟨h, rfl⟩ : ∃ h : Nat, b = h := ⟨b.toNat, by omega⟩
  have hw : 1 ≤ w ∧ w ≤ 8 := by omega
  have hh : 1 ≤ h ∧ h ≤ 60 := by omega
  obtain ⟨hb, hhv, hh2⟩ := heavy02 s hl1 (w := w) (by omega) (k := 3000000) (by omega)
  rw [hhv, Option.bind_some]
  cases hb
  rotate_left
  · rw [if_pos rfl, aw]; rfl
  obtain ⟨g1, g2, g3⟩ := hh2 rfl
  rw [if_neg (show ¬ (false = true) by decide)]
  have hg := great_eq s hl1 (w := w) ⟨hw.1, by omega⟩ (k := 3000000) (by omega)
  have hR := refCount_eq s hl1 hw hh (edge_of hsd) (by omega) (by omega) (k := 3000000) (by omega)
  have hsl := sat_le (waysN s w h e)
  cases hf : fewB s.length w
  · rw [b4 hv hr hsd (by rw [Int.toNat_natCast]; exact hf), Option.bind_some, if_pos (by decide), hg, hf, Option.bind_some, Option.bind_some, if_pos (by decide), if_pos (by decide), aw]; rfl
  · rw [count_ok s w h e hv hw hh hsd hf (by omega), Option.bind_some, hg, hf, hR]
    unfold countX
    by_cases hs : waysN s w h e ≤ 1152921504606846976
    · have e1 : sat (waysN s w h e) = waysN s w h e := by unfold sat; omega
      rw [if_pos hs, if_neg (show ¬ ((0 : Int) == 4) = true by decide), Option.bind_some, if_neg (by decide), Option.bind_some, e1, if_neg (by simp; omega), if_pos (by simp), aw]; rfl
    · have e1 : sat (waysN s w h e) = 1152921504606846977 := by unfold sat; omega
      rw [if_neg hs, if_pos (by decide), Option.bind_some, Option.bind_some, if_neg (by decide), Option.bind_some, e1, if_pos (by decide), if_pos (by decide), aw]; rfl
end Gp
