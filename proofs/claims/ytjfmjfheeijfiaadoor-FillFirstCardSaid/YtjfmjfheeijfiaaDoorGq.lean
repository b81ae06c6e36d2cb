/- The plain law: what the functions compute answers as the statement says. -/
import Derived.Test.YtjfmjfheeijfiaaDoorGp
import Derived.KernelRfl
set_option linter.unusedVariables false
set_option linter.unusedSimpArgs false
namespace Gq
open Go Gw Gp
/-! ### numbers and lists -/
theorem w64_id {n : Int} (h0 : -9223372036854775808 ≤ n) (h1 : n ≤ 9223372036854775807) : w64 n = n := by
  show IntKind.i64.wrap n = n
  have e : IntKind.i64.wrap n = if (true && decide (n % 18446744073709551616 ≥ 9223372036854775808)) = true then n % 18446744073709551616 - 18446744073709551616 else n % 18446744073709551616 := rfl
  rw [e]
  simp only [Bool.true_and, decide_eq_true_eq]
  split <;> omega
theorem rdD_nat {α : Type} (xs : List α) (i : Nat) (d : α) : rdD xs (i : Int) d = xs.getD i d := by simp [rdD]
theorem rdD_get {α : Type} {xs : List α} {i : Nat} (h : i < xs.length) (d : α) : rdD xs (i : Int) d = xs[i] := by
  simp [rdD, List.getD, List.getElem?_eq_getElem h]
def firstS {α β : Type} (g : Nat → α → Option β) : Nat → List α → Option β
  | _, [] => none
  | i, a :: r => match g i a with
    | some b => some b
    | none => firstS g (i + 1) r
def fin {β : Type} : Option β → Sum β Unit
  | some b => .inl b
  | none => .inr ()
theorem scan {α β : Type} {F : Nat → Int → Option (Sum β Unit)} {xs : List α} {g : Nat → α → Option β}
    (hF : ∀ k (i : Nat), i ≤ xs.length → F (k + 1) (i : Int) = if h : i < xs.length then (match g i xs[i] with | some b => some (.inl b) | none => F k ((i + 1 : Nat) : Int)) else some (.inr ())) :
    ∀ (n k i : Nat), i + n = xs.length → n < k → F k (i : Int) = some (fin (firstS g i (xs.drop i)))
  | 0, k, i, hi, hk => by
    obtain ⟨k, rfl⟩ : ∃ m, k = m + 1 := ⟨k - 1, by omega⟩
    have hi : i = xs.length := by omega
    subst hi
    rw [hF k _ (Nat.le_refl _), dif_neg (Nat.lt_irrefl _), List.drop_length]; rfl
  | n + 1, k, i, hi, hk => by
    obtain ⟨k, rfl⟩ : ∃ m, k = m + 1 := ⟨k - 1, by omega⟩
    have hlt : i < xs.length := by omega
    rw [hF k i (by omega), dif_pos hlt, List.drop_eq_getElem_cons hlt, firstS]
    cases hg : g i xs[i] with
    | some b => rfl
    | none => exact scan hF n k (i + 1) (by omega) (by omega)
end Gq
set_option linter.unusedVariables false
set_option linter.unusedSimpArgs false
namespace Gq
theorem flat_succ {α : Type} (f : Nat → List α) (n : Nat) : (List.range (n + 1)).flatMap f = (List.range n).flatMap f ++ f n := by
  rw [List.range_succ, List.flatMap_append]; simp
end Gq
namespace Gp
open Gw Gq
/-! ### the tiles of a machine -/
def hd (Y q s : Nat) : Int := ((Y + q * Y + s : Nat) : Int)
end Gp
set_option linter.unusedVariables false
set_option linter.unusedSimpArgs false
namespace Gq
theorem flat_get {α : Type} {f : Nat → List α} : ∀ {n q j : Nat} {t : α}, q < n → (f q)[j]? = some t → ((List.range n).flatMap f)[((List.range q).flatMap f).length + j]? = some t
  | 0, q, j, t, h, _ => by omega
  | n + 1, q, j, t, h, hj => by
    rw [flat_succ, List.getElem?_append]
    by_cases hq : q < n
    · have := flat_get (n := n) hq hj
      rw [if_pos (by by_cases hl : ((List.range q).flatMap f).length + j < ((List.range n).flatMap f).length
                     · exact hl
                     · rw [List.getElem?_eq_none (by omega)] at this; cases this)]
      exact this
    · have : q = n := by omega
      subst this
      rw [if_neg (by omega), show ((List.range q).flatMap f).length + j - ((List.range q).flatMap f).length = j by omega]; exact hj
theorem flat_len {α : Type} {f : Nat → List α} {b : Nat} (hf : ∀ i, (f i).length = b) : ∀ n, ((List.range n).flatMap f).length = n * b
  | 0 => by simp
  | n + 1 => by
    rw [flat_succ, List.length_append, Nat.add_mul, Nat.one_mul, flat_len hf n, hf n]
end Gq
namespace Gp
open Gw Gq
/-! ### where the tiles of a machine lie -/
end Gp
set_option linter.unusedVariables false
set_option linter.unusedSimpArgs false
namespace Gp
open Gw Gq
/-! ### the tile that shows a cell of a step -/
theorem Tile.ext' {a b : Tile} (h1 : a.N = b.N) (h2 : a.E = b.E) (h3 : a.S = b.S) (h4 : a.W = b.W) : a = b := by
  cases a; cases b; simp only at h1 h2 h3 h4; subst h1 h2 h3 h4; rfl
end Gp
set_option linter.unusedVariables false
set_option linter.unusedSimpArgs false
namespace Gq
theorem loop_all {σ ρ τ : Type} {F : Nat → Int → σ → Option (Sum ρ τ)} {S : Nat → σ} {b : Nat → Bool} {n K : Nat} {r : ρ} {e : τ} (hs : ∀ k i, K ≤ k → i < n → F (k + 1) (i : Int) (S i) = if b i = true then F k ((i + 1 : Nat) : Int) (S (i + 1)) else some (.inl r)) (he : ∀ k, F (k + 1) (n : Int) (S n) = some (.inr e)) :
    ∀ k, n + K < k → F k 0 (S 0) = some (if (List.range n).all b = true then .inr e else .inl r) := by
  have key : ∀ d i k, i + d = n → d + K < k → F k (i : Int) (S i) = some (if (List.range' i d).all b = true then .inr e else .inl r) := by
    intro d
    induction d with
    | zero =>
      intro i k hi hk
      obtain ⟨k, rfl⟩ : ∃ m, k = m + 1 := ⟨k - 1, by omega⟩
      have : i = n := by omega
      subst this; rw [he]; rfl
    | succ d ih =>
      intro i k hi hk
      obtain ⟨k, rfl⟩ : ∃ m, k = m + 1 := ⟨k - 1, by omega⟩
      rw [hs k i (by omega) (by omega), List.range'_succ, List.all_cons]
      cases hb : b i
      · rfl
      · rw [if_pos rfl, ih (i + 1) k (by omega) (by omega)]; rfl
  intro k hk
  rw [List.range_eq_range']
  exact key n 0 k (by omega) hk
theorem firstS_ge' {α : Type} {p : α → Bool} : ∀ (xs : List α) (i : Nat), (match firstS (fun i a => if p a = true then none else some (i : Int)) i xs with
    | some x => decide (0 ≤ x)
    | none => false) = !xs.all p
  | [], i => rfl
  | a :: r, i => by
    rw [firstS]
    cases h : p a
    · simp [h]
    · simp only [if_true, List.all_cons, h, Bool.true_and]
      exact firstS_ge' r (i + 1)
end Gq
namespace Gp
open Gw Gq
/-! ### sets of tiles and patterns -/
def inCol (c : Int) : Bool := decide (0 ≤ c ∧ c < 1000)
def colB (t : Tile) : Bool := inCol t.N && inCol t.E && inCol t.S && inCol t.W
theorem idx_col (xs : List Int) (hl : xs.length ≤ 1000000) (k : Nat) (hk : xs.length < k) :
    slices_IndexFunc_int_int_with_tile_colour_1.l0 k 0 xs = some (fin (firstS (fun i a => if inCol a = true then none else some (i : Int)) 0 xs)) := by
  have := scan (F := fun k i => slices_IndexFunc_int_int_with_tile_colour_1.l0 k i xs) (xs := xs) (g := fun i a => if inCol a = true then none else some (i : Int)) (fun k i hi => by
    show slices_IndexFunc_int_int_with_tile_colour_1.l0 (k + 1) i xs = _
    rw [slices_IndexFunc_int_int_with_tile_colour_1.l0]
    by_cases h : i < xs.length
    · have h' : (i : Int) < (xs.length : Int) := by omega
      have h2 : 0 ≤ (i : Int) ∧ (i : Int) < (xs.length : Int) := by omega
      rw [dif_pos h, if_pos (by simpa using h'), if_pos h2, rdD_get h, tile_colour_1, w64_id (by omega) (by omega)]
      by_cases hb : 0 ≤ xs[i] ∧ xs[i] < 1000
      · have h3 : ¬ (xs[i] < 0 ∨ 1000 ≤ xs[i]) := by omega
        simp [inCol, hb]
        intro hh; exact absurd hh h3
      · have h3 : (xs[i] < 0 ∨ 1000 ≤ xs[i]) := by omega
        simp [inCol, hb, h3]
    · have h' : ¬ (i : Int) < (xs.length : Int) := by omega
      rw [dif_neg h, if_neg (by simpa using h')]) xs.length k 0 (by simp) hk
  simpa using this
theorem colour_eq (xs : List Int) (hl : xs.length ≤ 1000000) (k : Nat) (hk : xs.length < k) : tile_colour k xs = some (xs.all inCol) := by
  unfold tile_colour slices_ContainsFunc_int_int_with_tile_colour_1 slices_IndexFunc_int_int_with_tile_colour_1
  rw [idx_col xs hl k hk]
  have := firstS_ge' (p := inCol) xs 0
  cases hf : firstS (fun i a => if inCol a = true then none else some (i : Int)) 0 xs <;> rw [hf] at this <;> cases ha : xs.all inCol <;> rw [ha] at this <;> simp [fin, sumb] at this ⊢
  · exact this
  · exact this
def metS (set : List Tile) (i : Nat) : List (Tile × Bool) := (set.take i).map fun t => (t, true)
theorem mget_met (t : Tile) : ∀ l : List Tile, mget t false (l.map fun t => (t, true)) = decide (t ∈ l)
  | [] => rfl
  | a :: r => by
    simp only [List.map_cons, mget]
    by_cases h : t = a
    · simp [h]
    · rw [if_neg h, mget_met t r]; simp [h]
theorem mput_met (t : Tile) : ∀ l : List Tile, t ∉ l → mput t true (l.map fun t => (t, true)) = (l.map fun t => (t, true)) ++ [(t, true)]
  | [], _ => rfl
  | a :: r, h => by
    simp only [List.mem_cons, not_or] at h
    simp only [List.map_cons, mput, if_neg h.1, mput_met t r h.2, List.cons_append]
def newB (set : List Tile) (i : Nat) : Bool := !decide (set.getD i z_Tile ∈ set.take i) && colB (set.getD i z_Tile)
def validT (set : List Tile) : Bool := decide (set.length ≤ 1000) && (List.range set.length).all (newB set)
theorem tile_valid (set : List Tile) {k : Nat} (hk : 1006 ≤ k) (hl : set.length ≤ 9223372036854775807) : tile_Valid k set = some (validT set) := by
  unfold tile_Valid validT
  by_cases hb : set.length ≤ 1000
  · rw [if_neg (by simp; omega)]
    have := loop_all (F := fun k i (m : List (Tile × Bool)) => tile_Valid.l0 k m i set) (S := metS set) (b := newB set) (n := set.length) (K := 5) (r := false) (e := ()) (fun k i hk hi => by
      show tile_Valid.l0 (k + 1) (metS set i) i set = if newB set i = true then tile_Valid.l0 k (metS set (i + 1)) ((i + 1 : Nat) : Int) set else _
      rw [tile_Valid.l0, if_pos (by simpa using hi), if_pos (by omega), rdD_nat, metS, mget_met]
      have ht : set.getD i z_Tile = set[i] := by simp [List.getElem?_eq_getElem hi]
      unfold newB
      by_cases hm : set.getD i z_Tile ∈ set.take i
      · rw [if_pos (by simpa using hm), show decide (set.getD i z_Tile ∈ set.take i) = true from decide_eq_true hm]; rfl
      · rw [if_neg (by simpa using hm), colour_eq _ (by simp) k (by simp; omega), Option.bind_some, Option.bind_some]
        have hc : ([(set.getD i z_Tile).N, (set.getD i z_Tile).E, (set.getD i z_Tile).S, (set.getD i z_Tile).W].all inCol) = colB (set.getD i z_Tile) := by simp [colB, Bool.and_assoc]
        rw [hc]
        cases hcb : colB (set.getD i z_Tile)
        · simp
        · rw [mput_met _ _ hm, w64_id (by omega) (by omega)]
          simp only [hm, Bool.not_true, Bool.false_eq_true, if_false, decide_false, Bool.not_false, Bool.and_self, if_true]
          unfold metS
          rw [List.take_add_one, List.map_append, List.getElem?_eq_getElem hi, ht]; rfl) (fun k => by
      show tile_Valid.l0 (k + 1) (metS set set.length) set.length set = _
      rw [tile_Valid.l0, if_neg (by simp)]) k (by omega)
    have h0 : tile_Valid.l0 k [] 0 set = some (if (List.range set.length).all (newB set) = true then .inr () else .inl false) := this
    rw [h0]
    cases (List.range set.length).all (newB set) <;> simp [sumb, hb]
  · rw [if_pos (by simp; omega)]; simp [hb]
def formB (p : Pattern) : Bool := decide (1 ≤ p.Width ∧ 1 ≤ p.Height ∧ p.Width ≤ 40000 ∧ p.Height ≤ 40000 ∧ p.Width * p.Height ≤ 40000 ∧ (p.Cells.length : Int) = p.Width * p.Height)
def inSet (n : Nat) (c : Int) : Bool := decide (0 ≤ c ∧ c < (n : Int))
def ofB (set : List Tile) (p : Pattern) : Bool := validT set && formB p && p.Cells.all (inSet set.length)
structure PForm (set : List Tile) (p : Pattern) (W H : Nat) : Prop where
  w : p.Width = W
  h : p.Height = H
  dW : 1 ≤ W ∧ W ≤ 40000
  dH : 1 ≤ H ∧ H ≤ 40000
  wh : H * W ≤ 40000
  len : p.Cells.length = H * W
  cel : ∀ j, j < H * W → 0 ≤ p.Cells.getD j 0 ∧ p.Cells.getD j 0 < (set.length : Int)
theorem place_lt {W H x y : Nat} (hx : x < W) (hy : y < H) : y * W + x < H * W := by
  have := Nat.mul_le_mul_right W (show y + 1 ≤ H by omega)
  rw [Nat.succ_mul] at this; omega
end Gp
set_option linter.unusedVariables false
set_option linter.unusedSimpArgs false
namespace Gp
open Gw Gq
/-! ### the pictures are patterns of the tiles -/
theorem PForm.of {set : List Tile} {p : Pattern} {W H : Nat} (f : PForm set p W H) (hv : validT set = true) : ofB set p = true := by
  unfold ofB formB
  have h1 := f.dW; have h2 := f.dH; have h3 := f.wh
  have e : p.Width * p.Height = ((H * W : Nat) : Int) := by rw [f.w, f.h, Int.natCast_mul, Int.mul_comm]
  rw [hv, e, f.w, f.h, f.len]
  simp only [Bool.true_and, Bool.and_eq_true, decide_eq_true_eq, List.all_eq_true]
  refine ⟨⟨by omega, by omega, by omega, by omega, by omega, trivial⟩, fun a ha => ?_⟩
  obtain ⟨j, hj, he⟩ := List.mem_iff_getElem.1 ha
  have := f.cel j (by rw [← f.len]; exact hj)
  rw [show p.Cells.getD j 0 = p.Cells[j] from by simp [List.getElem?_eq_getElem hj], he] at this
  unfold inSet; exact decide_eq_true this
end Gp
set_option linter.unusedVariables false
set_option linter.unusedSimpArgs false
namespace Gq
end Gq
namespace Gp
open Gw Gq
/-! ### the patterns of the statements' own reference -/
end Gp
set_option linter.unusedVariables false
set_option linter.unusedSimpArgs false
namespace Gp
open Gw Gq
end Gp
set_option linter.unusedVariables false
set_option linter.unusedSimpArgs false
namespace Gp
open Gw Gq
/-! ### a torus, repeated -/
end Gp
set_option linter.unusedVariables false
set_option linter.unusedSimpArgs false
namespace Gp
open Gw Gq
/-! ### the first layer's reference -/
theorem colour01 (c : Int) : ref01_colour c = some (inCol c) := by
  unfold ref01_colour inCol
  by_cases h : 0 ≤ c ∧ c < 1000
  · simp [h]
  · rw [decide_eq_false h]
    congr 1
    cases h1 : decide (c ≥ 0)
    · rfl
    · have : ¬ c < 1000 := fun h2 => h ⟨by simpa using h1, h2⟩
      simp [this]
theorem index01 {set : List Tile} (hl : set.length ≤ 1000000) (t : Tile) {k : Nat} (hk : set.length < k) : ∃ r : Int, ref01_Index k set t = some r ∧ decide (r ≥ 0) = decide (t ∈ set) := by
  have := scan (F := fun k i => ref01_Index.l0 k i set t) (xs := set) (g := fun i a => if a = t then some (i : Int) else none) (fun k i hi => by
    show ref01_Index.l0 (k + 1) i set t = _
    rw [ref01_Index.l0]
    by_cases h : i < set.length
    · have h2 : 0 ≤ (i : Int) ∧ (i : Int) < (set.length : Int) := by omega
      rw [dif_pos h, if_pos (by simpa using h), if_pos h2, rdD_get h, w64_id (by omega) (by omega)]
      by_cases hb : set[i] = t
      · subst hb; simp
      · have : ((set[i].N == t.N) && ((set[i].E == t.E) && ((set[i].S == t.S) && (set[i].W == t.W)))) = false := by
          cases hc : ((set[i].N == t.N) && ((set[i].E == t.E) && ((set[i].S == t.S) && (set[i].W == t.W))))
          · rfl
          · simp only [Bool.and_eq_true, beq_iff_eq] at hc
            exact absurd (Tile.ext' hc.1 hc.2.1 hc.2.2.1 hc.2.2.2) hb
        rw [this, if_neg hb]; rfl
    · rw [dif_neg h, if_neg (by simpa using h)]) set.length k 0 (by simp) hk
  have h0 : ref01_Index.l0 k 0 set t = some (fin (firstS (fun i a => if a = t then some (i : Int) else none) 0 (set.drop 0))) := this
  rw [List.drop_zero] at h0
  have key : ∀ (l : List Tile) (i : Nat), match firstS (fun i a => if a = t then some (i : Int) else none) i l with
      | some x => decide (x ≥ 0) = decide (t ∈ l)
      | none => decide (t ∈ l) = false := by
    intro l
    induction l with
    | nil => intro i; simp [firstS]
    | cons a r ih =>
      intro i
      rw [firstS]
      by_cases ha : a = t
      · subst ha; simp
      · have hne : ¬ t = a := fun e => ha e.symm
        rw [if_neg ha]
        have := ih (i + 1)
        cases hf : firstS (fun i a => if a = t then some (i : Int) else none) (i + 1) r with
        | none => rw [hf] at this; simp only [List.mem_cons, hne, false_or]; exact this
        | some x => rw [hf] at this; simp only [List.mem_cons, hne, false_or]; exact this
  unfold ref01_Index
  rw [h0]
  have hk2 := key set 0
  cases hf : firstS (fun i a => if a = t then some (i : Int) else none) 0 set with
  | none => rw [hf] at hk2; exact ⟨-1, rfl, by rw [hk2]; rfl⟩
  | some x => rw [hf] at hk2; exact ⟨x, rfl, hk2⟩
theorem valid01 (set : List Tile) {k : Nat} (hk : 2002 < k) (hl : set.length ≤ 9223372036854775807) : ref01_Valid k set = some (validT set) := by
  unfold ref01_Valid validT
  by_cases hb : set.length ≤ 1000
  · rw [if_neg (by simp; omega)]
    have := loop_all (F := fun k i (_ : Unit) => ref01_Valid.l0 k i set) (S := fun _ => ()) (b := newB set) (n := set.length) (K := 1001) (r := false) (e := ()) (fun k i hk hi => by
      show ref01_Valid.l0 (k + 1) i set = if newB set i = true then ref01_Valid.l0 k ((i + 1 : Nat) : Int) set else _
      have hcut : cut set (0 : Int) (i : Int) = set.take i := by unfold cut; simp
      obtain ⟨r, hr, hd⟩ := index01 (set := set.take i) (by rw [List.length_take]; omega) (set.getD i z_Tile) (k := k) (by rw [List.length_take]; omega)
      rw [ref01_Valid.l0, if_pos (by simpa using hi), if_pos (by omega)]
      simp only [rdD_nat, colour01, Option.bind_some, hcut]
      rw [if_pos (⟨by omega, by omega, by omega⟩ : 0 ≤ (0 : Int) ∧ (0 : Int) ≤ (i : Int) ∧ (i : Int) ≤ (set.length : Int)), hr, w64_id (by omega) (by omega)]
      simp only [Option.bind_some, hd]
      unfold newB colB
      cases inCol (set.getD i z_Tile).N
      · simp
      · cases inCol (set.getD i z_Tile).E
        · simp
        · cases inCol (set.getD i z_Tile).S
          · simp
          · cases inCol (set.getD i z_Tile).W
            · simp
            · cases decide (set.getD i z_Tile ∈ set.take i) <;> simp) (fun k => by
      show ref01_Valid.l0 (k + 1) set.length set = _
      rw [ref01_Valid.l0, if_neg (by simp)]) k (by omega)
    have h0 : ref01_Valid.l0 k 0 set = some (if (List.range set.length).all (newB set) = true then .inr () else .inl false) := this
    rw [h0]
    cases (List.range set.length).all (newB set) <;> simp [sumb, hb]
  · rw [if_pos (by simp; omega)]; simp [hb]
end Gp
set_option linter.unusedVariables false
set_option linter.unusedSimpArgs false
namespace Gp
open Gw Gq
/-! ### grids: lists of rows -/
def grid (w h : Nat) (g : Nat → Nat → Int) : List Int := (List.range h).flatMap fun y => (List.range w).map (g y)
theorem grid_len (w h : Nat) (g : Nat → Nat → Int) : (grid w h g).length = h * w := flat_len (f := fun y => (List.range w).map (g y)) (b := w) (fun y => by simp) h
theorem grid_get (w h : Nat) (g : Nat → Nat → Int) {x y : Nat} (hx : x < w) (hy : y < h) : (grid w h g).getD (y * w + x) 0 = g y x := by
  have := flat_get (f := fun y => (List.range w).map (g y)) (n := h) (q := y) (j := x) (t := g y x) hy (by simp [hx])
  have e : ((List.range y).flatMap fun y => (List.range w).map (g y)).length = y * w := grid_len w y g
  rw [e] at this
  unfold grid
  rw [List.getD_eq_getElem?_getD, this]; rfl
/-! ### stores into a list -/
def sets (l : List Int) (q : List (Nat × Int)) : List Int := q.foldl (fun l p => l.set p.1 p.2) l
/-! ### patterns that have the form of one -/
structure GForm (p : Pattern) (W H : Nat) : Prop where
  w : p.Width = W
  h : p.Height = H
  dW : 1 ≤ W ∧ W ≤ 40000
  dH : 1 ≤ H ∧ H ≤ 40000
  wh : H * W ≤ 40000
  len : p.Cells.length = H * W
theorem GForm.form {p : Pattern} {W H : Nat} (f : GForm p W H) : formB p = true := by
  have h1 := f.dW; have h2 := f.dH; have h3 := f.wh
  have e : p.Width * p.Height = ((H * W : Nat) : Int) := by rw [f.w, f.h, Int.natCast_mul, Int.mul_comm]
  unfold formB; rw [e, f.w, f.h, f.len]; exact decide_eq_true ⟨by omega, by omega, by omega, by omega, by omega, rfl⟩
theorem PForm.g {set : List Tile} {p : Pattern} {W H : Nat} (f : PForm set p W H) : GForm p W H := ⟨f.w, f.h, f.dW, f.dH, f.wh, f.len⟩
def cellG (p : Pattern) (W y x : Nat) : Int := p.Cells.getD (y * W + x) 0
theorem GForm.at {p : Pattern} {W H : Nat} (f : GForm p W H) {x y : Nat} (hx : x < W) (hy : y < H) : w64 (w64 ((y : Int) * (W : Int)) + (x : Int)) = ((y * W + x : Nat) : Int) ∧ (0 ≤ ((y * W + x : Nat) : Int) ∧ ((y * W + x : Nat) : Int) < (p.Cells.length : Int)) := by
  have hwh := f.wh
  have hp := place_lt hx hy
  refine ⟨?_, by omega, by rw [f.len]; omega⟩
  rw [← Int.natCast_mul, w64_id (n := ((y * W : Nat) : Int)) (by omega) (by omega), w64_id (by omega) (by omega)]; rfl
theorem succ64 {x : Nat} (h : x ≤ 1000000) : w64 ((x : Int) + 1) = ((x + 1 : Nat) : Int) := by rw [w64_id (by omega) (by omega)]; rfl
/-! ### the changed patterns -/
end Gp
set_option linter.unusedVariables false
set_option linter.unusedSimpArgs false
namespace Gp
open Gw Gq
/-! ### cuts -/
/-! ### patterns, repeated -/
/-! ### what is equal -/
theorem same01 (l : List Int) (hl : l.length ≤ 1000000) {k : Nat} (hk : l.length < k) : ref01_Same k l l = some true := by
  have := loop_all (F := fun k i (_ : Unit) => ref01_Same.l0 k i l l) (S := fun _ => ()) (b := fun _ => true) (n := l.length) (K := 0) (r := false) (e := ()) (fun k i _ hi => by
    show ref01_Same.l0 (k + 1) i l l = if true = true then ref01_Same.l0 k ((i + 1 : Nat) : Int) l l else _
    rw [ref01_Same.l0, if_pos (by simpa using hi), if_pos (by omega), if_pos (by omega), if_neg (by simp), succ64 (by omega), if_pos rfl]) (fun k => by
    show ref01_Same.l0 (k + 1) l.length l l = _
    rw [ref01_Same.l0, if_neg (by simp)]) k (by omega)
  have this : ref01_Same.l0 k 0 l l = some (if (List.range l.length).all (fun _ => true) = true then .inr () else .inl false) := this
  unfold ref01_Same
  rw [if_neg (by simp), this, if_pos (by simp)]; rfl
theorem samePat (p : Pattern) (hl : p.Cells.length ≤ 1000000) {k : Nat} (hk : p.Cells.length < k) : ref01_SamePattern k p p = some true := by
  unfold ref01_SamePattern
  simp [same01 p.Cells hl hk]
end Gp
set_option linter.unusedVariables false
set_option linter.unusedSimpArgs false
namespace Gp
open Gw Gq
/-! ### changed sets -/
def upT (t : Tile) : Tile := ⟨t.S, t.E, t.N, t.W⟩
def turnT (t : Tile) : Tile := ⟨t.W, t.N, t.E, t.S⟩
structure Chg (f : Tile → Tile) : Prop where
  inj : ∀ a b, f a = f b → a = b
  col : ∀ t, colB (f t) = colB t
theorem chg_up : Chg upT := ⟨fun a b h => by cases a; cases b; simp only [upT, Tile.mk.injEq] at h; obtain ⟨rfl, rfl, rfl, rfl⟩ := h; rfl, fun t => by unfold colB upT; simp only; cases inCol t.N <;> cases inCol t.E <;> cases inCol t.S <;> cases inCol t.W <;> rfl⟩
theorem chg_turn : Chg turnT := ⟨fun a b h => by cases a; cases b; simp only [turnT, Tile.mk.injEq] at h; obtain ⟨rfl, rfl, rfl, rfl⟩ := h; rfl, fun t => by unfold colB turnT; simp only; cases inCol t.N <;> cases inCol t.E <;> cases inCol t.S <;> cases inCol t.W <;> rfl⟩
theorem getD_map (f : Tile → Tile) {s : List Tile} {i : Nat} (h : i < s.length) : (s.map f).getD i z_Tile = f (s.getD i z_Tile) := by simp [List.getElem?_eq_getElem h]
theorem Chg.valid {f : Tile → Tile} (c : Chg f) {s : List Tile} (hv : validT s = true) : validT (s.map f) = true := by
  unfold validT at hv ⊢
  simp only [Bool.and_eq_true, decide_eq_true_eq, List.all_eq_true, List.mem_range, List.length_map] at hv ⊢
  refine ⟨hv.1, fun i hi => ?_⟩
  have := hv.2 i hi
  unfold newB at this ⊢
  rw [getD_map f hi, ← List.map_take, c.col]
  simp only [Bool.and_eq_true, Bool.not_eq_true', decide_eq_false_iff_not] at this ⊢
  refine ⟨fun hm => this.1 ?_, this.2⟩
  obtain ⟨a, ha, he⟩ := List.mem_map.1 hm
  rw [← c.inj _ _ he]; exact ha
/-! ### how the tiles of a grid meet -/
def JP (W H : Nat) (round : Bool) (T : Nat → Nat → Tile) : Prop :=
  (∀ y x, y < H → x < W → (x + 1 < W ∨ round = true) → (T y x).E = (T y ((x + 1) % W)).W) ∧ (∀ y x, y < H → x < W → (y + 1 < H ∨ round = true) → (T y x).N = (T ((y + 1) % H) x).S)
theorem JP.congr {W H : Nat} {round : Bool} {T T' : Nat → Nat → Tile} (he : ∀ y x, y < H → x < W → T y x = T' y x) (h : JP W H round T) : JP W H round T' := by
  refine ⟨fun y x hy hx hr => ?_, fun y x hy hx hr => ?_⟩
  · rw [← he y x hy hx, ← he y _ hy (Nat.mod_lt _ (by omega))]; exact h.1 y x hy hx hr
  · rw [← he y x hy hx, ← he _ x (Nat.mod_lt _ (by omega)) hx]; exact h.2 y x hy hx hr
def GP (W H : Nat) (c : Nat → Nat → Int) : Pattern := ⟨W, H, grid W H c⟩
def TT (s : List Tile) (c : Nat → Nat → Int) (y x : Nat) : Tile := s.getD (c y x).toNat z_Tile
structure GOK (s : List Tile) (W H : Nat) (c : Nat → Nat → Int) (whole : Bool) : Prop where
  valid : validT s = true
  dW : 1 ≤ W ∧ W ≤ 40000
  dH : 1 ≤ H ∧ H ≤ 40000
  wh : H * W ≤ 40000
  cel : ∀ y x, y < H → x < W → 0 ≤ c y x ∧ c y x < (s.length : Int)
  fits : JP W H false (TT s c)
  round : whole = true ↔ JP W H true (TT s c)
theorem valid_len {s : List Tile} (hv : validT s = true) : s.length ≤ 1000 := by unfold validT at hv; simp only [Bool.and_eq_true, decide_eq_true_eq] at hv; exact hv.1
theorem GOK.congr {s : List Tile} {W H : Nat} {c c' : Nat → Nat → Int} {whole : Bool} (g : GOK s W H c whole) (he : ∀ y x, y < H → x < W → c y x = c' y x) : GOK s W H c' whole := by
  have ht : ∀ y x, y < H → x < W → TT s c y x = TT s c' y x := fun y x hy hx => by unfold TT; rw [he y x hy hx]
  exact ⟨g.valid, g.dW, g.dH, g.wh, fun y x hy hx => by rw [← he y x hy hx]; exact g.cel y x hy hx, g.fits.congr ht, g.round.trans ⟨fun h => h.congr ht, fun h => h.congr (fun y x hy hx => (ht y x hy hx).symm)⟩⟩
theorem TT_map {f : Tile → Tile} {s : List Tile} {c : Nat → Nat → Int} {y x : Nat} (h : 0 ≤ c y x ∧ c y x < (s.length : Int)) : TT (s.map f) c y x = f (TT s c y x) := by
  unfold TT
  rw [getD_map f (by omega)]
/-! mirrored -/
theorem mod_back {W x : Nat} (hx : x < W) : (W - 1 - (x + 1) % W + 1) % W = W - 1 - x ∧ W - 1 - (x + 1) % W < W ∧ (x + 1 < W → W - 1 - (x + 1) % W + 1 < W) := by
  by_cases h : x + 1 < W
  · rw [Nat.mod_eq_of_lt h, show W - 1 - (x + 1) + 1 = W - 1 - x by omega, Nat.mod_eq_of_lt (by omega)]; omega
  · have e : x + 1 = W := by omega
    rw [e, Nat.mod_self, show W - 1 - 0 + 1 = W by omega, Nat.mod_self]; omega
theorem JP.up {W H : Nat} {round : Bool} {T : Nat → Nat → Tile} (h : JP W H round T) : JP W H round (fun y x => upT (T (H - 1 - y) x)) := by
  refine ⟨fun y x hy hx hr => ?_, fun y x hy hx hr => ?_⟩
  · exact h.1 (H - 1 - y) x (by omega) hx hr
  · obtain ⟨e, hlt, hi⟩ := mod_back hy
    have := h.2 (H - 1 - (y + 1) % H) x hlt hx (hr.imp hi id)
    rw [e] at this
    exact this.symm
theorem JP.turn {W H : Nat} {round : Bool} {T : Nat → Nat → Tile} (h : JP W H round T) : JP H W round (fun y x => turnT (T x (W - 1 - y))) := by
  refine ⟨fun y x hy hx hr => ?_, fun y x hy hx hr => ?_⟩
  · exact h.2 x (W - 1 - y) hx (by omega) hr
  · obtain ⟨e, hlt, hi⟩ := mod_back hy
    have := h.1 x (W - 1 - (y + 1) % W) hx hlt (hr.imp hi id)
    rw [e] at this
    exact this.symm
theorem GOK.up {s : List Tile} {W H : Nat} {c : Nat → Nat → Int} {whole : Bool} (g : GOK s W H c whole) : GOK (s.map upT) W H (fun y x => c (H - 1 - y) x) whole := by
  have hdH := g.dH
  have ht : ∀ y x, y < H → x < W → upT (TT s c (H - 1 - y) x) = TT (s.map upT) (fun y x => c (H - 1 - y) x) y x := fun y x hy hx => by
    exact (TT_map (f := upT) (c := fun y x => c (H - 1 - y) x) (y := y) (x := x) (g.cel (H - 1 - y) x (by omega) hx)).symm
  refine ⟨chg_up.valid g.valid, g.dW, g.dH, g.wh, fun y x hy hx => by rw [List.length_map]; exact g.cel _ x (by omega) hx, g.fits.up.congr ht, ?_⟩
  rw [g.round]
  constructor
  · exact fun h => h.up.congr ht
  · intro h
    have := (h.congr (fun y x hy hx => (ht y x hy hx).symm)).up
    exact this.congr fun y x hy hx => by
      rw [show H - 1 - (H - 1 - y) = y by omega]; rfl
theorem GOK.turn {s : List Tile} {W H : Nat} {c : Nat → Nat → Int} {whole : Bool} (g : GOK s W H c whole) : GOK (s.map turnT) H W (fun y x => c x (W - 1 - y)) whole := by
  have hdW := g.dW; have hdH := g.dH
  have ht : ∀ y x, y < W → x < H → turnT (TT s c x (W - 1 - y)) = TT (s.map turnT) (fun y x => c x (W - 1 - y)) y x := fun y x hy hx => by
    exact (TT_map (f := turnT) (c := fun y x => c x (W - 1 - y)) (y := y) (x := x) (g.cel x (W - 1 - y) hx (by omega))).symm
  refine ⟨chg_turn.valid g.valid, g.dH, g.dW, by rw [Nat.mul_comm]; exact g.wh, fun y x hy hx => by rw [List.length_map]; exact g.cel x _ hx (by omega), g.fits.turn.congr ht, ?_⟩
  rw [g.round]
  constructor
  · exact fun h => h.turn.congr ht
  · intro h
    have := (h.congr (fun y x hy hx => (ht y x hy hx).symm)).turn.turn.turn
    exact this.congr fun y x hy hx => by
      rw [show H - 1 - (H - 1 - y) = y by omega, show W - 1 - (W - 1 - x) = x by omega]; rfl
theorem GP.g {W H : Nat} {c : Nat → Nat → Int} (dW : 1 ≤ W ∧ W ≤ 40000) (dH : 1 ≤ H ∧ H ≤ 40000) (wh : H * W ≤ 40000) : GForm (GP W H c) W H := ⟨rfl, rfl, dW, dH, wh, grid_len W H c⟩
theorem GP.cell {W H : Nat} (c : Nat → Nat → Int) {y x : Nat} (hy : y < H) (hx : x < W) : cellG (GP W H c) W y x = c y x := grid_get W H c hx hy
end Gp
set_option linter.unusedVariables false
set_option linter.unusedSimpArgs false
namespace Gp
open Gw Gq
end Gp
set_option linter.unusedVariables false
set_option linter.unusedSimpArgs false
namespace Gq
theorem loop_list {α σ τ : Type} {F : Nat → Int → σ → Option τ} (xs : List α) (step : σ → α → σ) (K : Nat) (P : Nat → σ → Prop) (fin : σ → τ)
    (hs : ∀ k i s (h : i < xs.length), K ≤ k → P i s → F (k + 1) (i : Int) s = F k ((i + 1 : Nat) : Int) (step s xs[i]) ∧ P (i + 1) (step s xs[i])) (he : ∀ k s, P xs.length s → F (k + 1) (xs.length : Int) s = some (fin s)) :
    ∀ (s0 : σ), P 0 s0 → ∀ k, xs.length + K < k → F k 0 s0 = some (fin (xs.foldl step s0)) := by
  have key : ∀ d i s k, i + d = xs.length → P i s → d + K < k → F k (i : Int) s = some (fin ((xs.drop i).foldl step s)) := by
    intro d
    induction d with
    | zero =>
      intro i s k hi hp hk
      obtain ⟨k, rfl⟩ : ∃ m, k = m + 1 := ⟨k - 1, by omega⟩
      have : i = xs.length := by omega
      subst this
      rw [he k s hp, List.drop_length]; rfl
    | succ d ih =>
      intro i s k hi hp hk
      obtain ⟨k, rfl⟩ : ∃ m, k = m + 1 := ⟨k - 1, by omega⟩
      have hlt : i < xs.length := by omega
      obtain ⟨h1, h2⟩ := hs k i s hlt (by omega) hp
      rw [h1, ih (i + 1) _ k (by omega) h2 (by omega), List.drop_eq_getElem_cons hlt]; rfl
  intro s0 h0 k hk
  have := key xs.length 0 s0 k (by omega) h0 hk
  simpa using this
end Gq
namespace Gp
open Gw Gq
/-! ### words, rows -/
def tat (set : List Tile) (i : Nat) : Tile := set.getD i z_Tile
def cz (c : List Nat) : List Int := c.map fun (i : Nat) => (i : Int)
def wordOf (l : List Int) : A8_Int := ⟨l.getD 0 0, l.getD 1 0, l.getD 2 0, l.getD 3 0, l.getD 4 0, l.getD 5 0, l.getD 6 0, l.getD 7 0⟩
def mkR (set : List Tile) (c : List Nat) : Row := ⟨cz c, wordOf (c.map fun i => (tat set i).S), wordOf (c.map fun i => (tat set i).N), (tat set (c.headD 0)).W, (tat set (c.getLastD 0)).E⟩
def follows (set : List Tile) (c : List Nat) (i : Nat) : Bool := match c.getLast? with
  | none => true
  | some j => (tat set j).E == (tat set i).W
def rowsL (set : List Tile) : Nat → List Nat → List (List Nat)
  | 0, c => [c]
  | n + 1, c => ((List.range set.length).filter (follows set c)).flatMap fun i => rowsL set n (c ++ [i])
theorem wordOf_get (l : List Int) (i : Nat) (hi : i < 8) : (wordOf l).get i = l.getD i 0 := by
  have : i = 0 ∨ i = 1 ∨ i = 2 ∨ i = 3 ∨ i = 4 ∨ i = 5 ∨ i = 6 ∨ i = 7 := by omega
  rcases this with rfl | rfl | rfl | rfl | rfl | rfl | rfl | rfl <;> rfl
theorem wordOf_inj {a b : List Int} (ha : a.length ≤ 8) (h : a.length = b.length) : wordOf a = wordOf b ↔ a = b := by
  constructor
  · intro e
    apply List.ext_getElem? 
    intro i
    by_cases hi : i < a.length
    · have h1 := wordOf_get a i (by omega)
      have h2 := wordOf_get b i (by omega)
      rw [e, h2] at h1
      rw [List.getElem?_eq_getElem hi, List.getElem?_eq_getElem (by omega)]
      simp only [List.getD, List.getElem?_eq_getElem hi, List.getElem?_eq_getElem (show i < b.length by omega), Option.getD_some] at h1
      rw [h1]
    · rw [List.getElem?_eq_none (by omega), List.getElem?_eq_none (by omega)]
  · intro e; rw [e]
theorem wordOf_set (l : List Int) (v : Int) (hl : l.length < 8) : (wordOf l).set l.length v = wordOf (l ++ [v]) := by
  have : l.length = 0 ∨ l.length = 1 ∨ l.length = 2 ∨ l.length = 3 ∨ l.length = 4 ∨ l.length = 5 ∨ l.length = 6 ∨ l.length = 7 := by omega
  match l, this with
  | [], _ => rfl
  | [a], _ => rfl
  | [a, b], _ => rfl
  | [a, b, c], _ => rfl
  | [a, b, c, d], _ => rfl
  | [a, b, c, d, e], _ => rfl
  | [a, b, c, d, e, f], _ => rfl
  | [a, b, c, d, e, f, g], _ => rfl
  | _ :: _ :: _ :: _ :: _ :: _ :: _ :: _ :: l, h => simp at h
theorem rowOf_l0 (set : List Tile) (c : List Nat) (hc : ∀ i ∈ c, i < set.length) (h8 : c.length ≤ 8) {k : Nat} (hk : c.length < k) :
    rows_rowOf.l0 k (A8_Int.mk 0 0 0 0 0 0 0 0) (A8_Int.mk 0 0 0 0 0 0 0 0) 0 set (cz c) = some (wordOf (c.map fun i => (tat set i).S), wordOf (c.map fun i => (tat set i).N)) := by
  have key : ∀ d i k, i + d = c.length → d < k → rows_rowOf.l0 k (wordOf ((c.take i).map fun i => (tat set i).S)) (wordOf ((c.take i).map fun i => (tat set i).N)) (i : Int) set (cz c) = some (wordOf (c.map fun i => (tat set i).S), wordOf (c.map fun i => (tat set i).N)) := by
    intro d
    induction d with
    | zero =>
      intro i k hi hk
      obtain ⟨k, rfl⟩ : ∃ m, k = m + 1 := ⟨k - 1, by omega⟩
      have : i = c.length := by omega
      subst this
      rw [rows_rowOf.l0, if_neg (by simp [cz]), List.take_length]
    | succ d ih =>
      intro i k hi hk
      obtain ⟨k, rfl⟩ : ∃ m, k = m + 1 := ⟨k - 1, by omega⟩
      have hlt : i < c.length := by omega
      have hci := hc c[i] (List.getElem_mem _)
      have hz : rdD (cz c) (i : Int) 0 = ((c[i] : Nat) : Int) := by rw [rdD_get (by simpa [cz] using hlt)]; simp [cz]
      rw [rows_rowOf.l0, if_pos (by simp [cz]; omega), if_pos (by simp [cz]; omega), hz, if_pos (by omega), if_pos (by omega), w64_id (by omega) (by omega), rdD_nat]
      have e1 := wordOf_set ((c.take i).map fun i => (tat set i).S) (tat set c[i]).S (by simp; omega)
      have e2 := wordOf_set ((c.take i).map fun i => (tat set i).N) (tat set c[i]).N (by simp; omega)
      have hlen : ((c.take i).map fun i => (tat set i).S).length = i := by simp; omega
      have hlen2 : ((c.take i).map fun i => (tat set i).N).length = i := by simp; omega
      rw [hlen] at e1; rw [hlen2] at e2
      have ht : c.take (i + 1) = c.take i ++ [c[i]] := by rw [List.take_add_one, List.getElem?_eq_getElem hlt]; rfl
      show rows_rowOf.l0 k (A8_Int.set _ i (tat set c[i]).S) (A8_Int.set _ i (tat set c[i]).N) _ set (cz c) = _
      rw [e1, e2]
      have := ih (i + 1) k (by omega) (by omega)
      rw [ht, List.map_append, List.map_append] at this
      exact this
  exact key c.length 0 k (by omega) hk
theorem rowOf_eq (set : List Tile) (c : List Nat) (hc : ∀ i ∈ c, i < set.length) (h8 : c.length ≤ 8) (h1 : 1 ≤ c.length) {k : Nat} (hk : c.length < k) : rows_rowOf k set (cz c) = some (mkR set c) := by
  have hl : (cz c).length = c.length := by simp [cz]
  have h0 : rdD (cz c) (0 : Int) 0 = ((c.headD 0 : Nat) : Int) := by
    cases c with
    | nil => simp at h1
    | cons a r => rfl
  have hn : c ≠ [] := by intro e; rw [e] at h1; simp at h1
  have hh : c.headD 0 < set.length := by
    cases c with
    | nil => simp at h1
    | cons a r => exact hc a (by simp)
  have hlast : c.getLastD 0 < set.length := by
    rw [List.getLastD_eq_getLast?, List.getLast?_eq_some_getLast hn]; exact hc _ (List.getLast_mem hn)
  have hw : w64 (((cz c).length : Int) - 1) = ((c.length - 1 : Nat) : Int) := by rw [hl, w64_id (by omega) (by omega)]; omega
  have hz : rdD (cz c) (((c.length - 1 : Nat) : Int)) 0 = ((c.getLastD 0 : Nat) : Int) := by
    rw [rdD_get (by rw [hl]; omega)]
    rw [List.getLastD_eq_getLast?, List.getLast?_eq_some_getLast hn, Option.getD_some, List.getLast_eq_getElem]
    simp [cz]
  unfold rows_rowOf
  rw [rowOf_l0 set c hc h8 hk, hw, hz, h0, if_pos (by simp [cz]; omega), Option.bind_some, if_pos (by rw [hl]; omega), if_pos (by omega), if_pos (by rw [hl]; omega), if_pos (by omega), rdD_nat, rdD_nat]
  rfl
theorem all1 (set : List Tile) (w : Nat) (h1 : 1 ≤ w) (h8 : w ≤ 8) (hl : set.length ≤ 1000000) : ∀ (n x : Nat) (c : List Nat) (out : List Row) (cells : List Int) (k : Nat), x + n = w → c.length = x → (∀ i ∈ c, i < set.length) → cells.length = w → cells.take x = cz c →
    out.length + (rowsL set n c).length ≤ 100000000000 → n + set.length + 10 < k → ∃ cells', rows_All_1 k (x : Int) (w : Int) out set cells = some (out ++ (rowsL set n c).map (mkR set), cells') ∧ cells'.length = w ∧ cells'.take x = cz c := by
  intro n
  induction n with
  | zero =>
    intro x c out cells k hx hc hcs hcl hct hb hk
    obtain ⟨k, rfl⟩ : ∃ m, k = m + 1 := ⟨k - 1, by omega⟩
    have hxw : x = w := by omega
    subst hxw
    have he : cells = cz c := by rw [← hct, ← hcl, List.take_length]
    refine ⟨cells, ?_, hcl, hct⟩
    rw [rows_All_1, if_pos (by simp), he, rowOf_eq set c hcs (by omega) (by omega) (by omega), Option.bind_some, if_pos (by simp [rowsL] at hb; omega)]
    rfl
  | succ n ih =>
    intro x c out cells k hx hc hcs hcl hct hb hk
    obtain ⟨k, rfl⟩ : ∃ m, k = m + 1 := ⟨k - 1, by omega⟩
    have key : ∀ d i k' (out : List Row) (cells : List Int), i + d = set.length → d < k' → cells.length = w → cells.take x = cz c → out.length + (((List.range' i d).filter (follows set c)).flatMap fun i => rowsL set n (c ++ [i])).length ≤ 100000000000 →
        ∃ cells', rows_All_1.l0 k' out cells (i : Int) (x : Int) (w : Int) set (rows_All_1 k) = some (out ++ (((List.range' i d).filter (follows set c)).flatMap fun i => rowsL set n (c ++ [i])).map (mkR set), cells') ∧ cells'.length = w ∧ cells'.take x = cz c := by
      intro d
      induction d with
      | zero =>
        intro i k' out cells hi hk' hcl hct hb
        obtain ⟨k', rfl⟩ : ∃ m, k' = m + 1 := ⟨k' - 1, by omega⟩
        have : i = set.length := by omega
        subst this
        refine ⟨cells, ?_, hcl, hct⟩
        rw [rows_All_1.l0, if_neg (by simp)]; simp
      | succ d ihd =>
        intro i k' out cells hi hk' hcl hct hb
        obtain ⟨k', rfl⟩ : ∃ m, k' = m + 1 := ⟨k' - 1, by omega⟩
        have hlt : i < set.length := by omega
        have hcond : (if ((x : Int) == 0) = true then (some true) else (if 0 ≤ w64 ((x : Int) - 1) ∧ w64 ((x : Int) - 1) < (cells.length : Int) then (if 0 ≤ (rdD cells (w64 ((x : Int) - 1)) 0) ∧ (rdD cells (w64 ((x : Int) - 1)) 0) < (set.length : Int) then (some (((rdD set (rdD cells (w64 ((x : Int) - 1)) 0) z_Tile).E) == ((rdD set (i : Int) z_Tile).W))) else none) else none)) = some (follows set c i) := by
          by_cases h0 : x = 0
          · subst h0
            have : c = [] := List.eq_nil_of_length_eq_zero hc
            subst this
            rfl
          · have hn : c ≠ [] := by intro e; rw [e] at hc; simp at hc; omega
            have hw : w64 ((x : Int) - 1) = ((x - 1 : Nat) : Int) := by rw [w64_id (by omega) (by omega)]; omega
            have hz : rdD cells (((x - 1 : Nat) : Int)) 0 = ((c.getLast hn : Nat) : Int) := by
              rw [rdD_get (by omega)]
              have : cells[x - 1]'(by omega) = (cells.take x)[x - 1]'(by simp; omega) := by simp
              rw [this]
              simp only [hct, List.getLast_eq_getElem]
              simp [cz, hc]
            have hm := hcs _ (List.getLast_mem hn)
            rw [if_neg (by simp; omega), hw, if_pos (by omega), hz, if_pos (by omega), rdD_nat, rdD_nat]
            unfold follows
            rw [List.getLast?_eq_some_getLast hn]; rfl
        have hwi : w64 ((i : Int) + 1) = ((i + 1 : Nat) : Int) := by rw [w64_id (by omega) (by omega)]; rfl
        rw [rows_All_1.l0, if_pos (by simpa using hlt), if_pos (by omega), hcond, Option.bind_some, hwi]
        rw [List.range'_succ, List.filter_cons] at hb ⊢
        cases hf : follows set c i
        · rw [hf] at hb
          simp only [Bool.false_eq_true, if_false] at hb ⊢
          rw [Option.bind_some]
          exact ihd (i + 1) k' out cells (by omega) (by omega) hcl hct hb
        · rw [hf] at hb
          simp only [if_true, List.flatMap_cons, List.length_append] at hb ⊢
          have hset : (cells.set x (i : Int)).take (x + 1) = cz (c ++ [i]) := by
            rw [List.take_add_one, List.take_set_of_le (Nat.le_refl _), hct, List.getElem?_set_self (by omega)]
            simp [cz]
          have hw1 : w64 ((x : Int) + 1) = ((x + 1 : Nat) : Int) := by rw [w64_id (by omega) (by omega)]; rfl
          obtain ⟨cells1, e1, l1, t1⟩ := ih (x + 1) (c ++ [i]) out (cells.set x (i : Int)) k (by omega) (by simp [hc]) (fun j hj => by
            rcases List.mem_append.1 hj with hj | hj
            · exact hcs j hj
            · simp at hj; omega) (by simp [hcl]) hset (by omega) (by omega)
          have t1' : cells1.take x = cz c := by
            have : cells1.take x = (cells1.take (x + 1)).take x := by rw [List.take_take, Nat.min_eq_left (by omega)]
            rw [this, t1]
            simp [cz, ← hc]
          obtain ⟨cells2, e2, l2, t2⟩ := ihd (i + 1) k' (out ++ (rowsL set n (c ++ [i])).map (mkR set)) cells1 (by omega) (by omega) l1 t1' (by simp only [List.length_append, List.length_map]; omega)
          refine ⟨cells2, ?_, l2, t2⟩
          rw [if_pos (by omega), hw1]
          simp only [Int.toNat_natCast]
          rw [e1, Option.bind_some, Option.bind_some]
          show rows_All_1.l0 k' _ cells1 ((i + 1 : Nat) : Int) _ _ _ _ = _
          rw [e2, List.map_append, List.append_assoc]
    rw [rowsL] at hb
    rw [List.range_eq_range'] at hb
    obtain ⟨cells', e, l, t⟩ := key set.length 0 k out cells (by omega) (by omega) hcl hct hb
    refine ⟨cells', ?_, l, t⟩
    rw [rows_All_1, if_neg (by simp; omega)]
    have e' : rows_All_1.l0 k out cells 0 (x : Int) (w : Int) set (rows_All_1 k) = _ := e
    rw [e', Option.bind_some, rowsL, List.range_eq_range']
theorem rowsL_len (set : List Tile) : ∀ (n : Nat) (c : List Nat), (rowsL set n c).length ≤ set.length ^ n
  | 0, c => by simp [rowsL]
  | n + 1, c => by
    rw [rowsL, List.length_flatMap]
    have : ∀ l : List Nat, (l.map fun i => (rowsL set n (c ++ [i])).length).sum ≤ l.length * set.length ^ n := by
      intro l
      induction l with
      | nil => simp
      | cons a r ih =>
        simp only [List.map_cons, List.sum_cons, List.length_cons]
        have := rowsL_len set n (c ++ [a])
        rw [Nat.add_mul]; omega
    refine Nat.le_trans (this _) ?_
    have h2 : ((List.range set.length).filter (follows set c)).length ≤ set.length := by
      have := List.length_filter_le (follows set c) (List.range set.length); simpa using this
    rw [Nat.pow_succ, Nat.mul_comm (set.length ^ n)]
    exact Nat.mul_le_mul_right _ h2
def allR (set : List Tile) (w : Nat) : List Row := (rowsL set w []).map (mkR set)
theorem all_eq (set : List Tile) (w : Nat) (h1 : 1 ≤ w) (h8 : w ≤ 8) (hl : set.length ≤ 1000000) (hf : set.length ^ w ≤ 100000000000) {k : Nat} (hk : set.length + 20 < k) : rows_All k set (w : Int) = some (allR set w) := by
  have hb := rowsL_len set w []
  obtain ⟨cells, e, _, _⟩ := all1 set w h1 h8 hl w 0 [] [] (List.replicate w 0) k (by omega) rfl (fun i h => by cases h) (by simp) (by simp [cz]) (by simp; omega) (by omega)
  unfold rows_All
  have e' : rows_All_1 k 0 (w : Int) [] set (List.replicate w 0) = _ := e
  rw [if_pos (by omega), Int.toNat_natCast, e']; rfl
/-! few -/
def fewB (n w : Nat) : Bool := decide ((max n 1) ^ w ≤ 5000)
theorem few_eq (set : List Tile) (w : Nat) (hw : w ≤ 1000) (hl : set.length ≤ 1000000) {k : Nat} (hk : w < k) : rows_Few k set (w : Int) = some (fewB set.length w) := by
  have hm : maxI (set.length : Int) 1 = ((max set.length 1 : Nat) : Int) := by unfold maxI; split <;> omega
  obtain ⟨m, hmd⟩ : ∃ m, max set.length 1 = m := ⟨_, rfl⟩
  have hm1 : 1 ≤ m := by omega
  have hm2 : m ≤ 1000000 := by omega
  have key : ∀ d i k, i + d = w → d < k → m ^ i ≤ 5000 → rows_Few.l0 k ((m ^ i : Nat) : Int) (i : Int) set (w : Int) = some (if m ^ w ≤ 5000 then .inr () else .inl false) := by
    intro d
    induction d with
    | zero =>
      intro i k hi hk hp
      obtain ⟨k, rfl⟩ : ∃ m, k = m + 1 := ⟨k - 1, by omega⟩
      have : i = w := by omega
      subst this
      rw [rows_Few.l0, if_neg (by simp), if_pos hp]
    | succ d ih =>
      intro i k hi hk hp
      obtain ⟨k, rfl⟩ : ∃ m, k = m + 1 := ⟨k - 1, by omega⟩
      have hpp : m ^ i * m ≤ 5000 * 1000000 := Nat.mul_le_mul hp hm2
      have e : w64 (((m ^ i : Nat) : Int) * maxI (set.length : Int) 1) = ((m ^ (i + 1) : Nat) : Int) := by
        rw [hm, hmd, ← Int.natCast_mul, Nat.pow_succ, w64_id (by omega) (by omega)]
      have hle : m ^ (i + 1) ≤ m ^ w := Nat.pow_le_pow_right hm1 (by omega)
      obtain ⟨q, hq⟩ : ∃ q, m ^ (i + 1) = q := ⟨_, rfl⟩
      rw [rows_Few.l0, if_pos (by simp; omega), e]
      have hwi : w64 ((i : Int) + 1) = ((i + 1 : Nat) : Int) := by rw [w64_id (by omega) (by omega)]; rfl
      by_cases h5 : q ≤ 5000
      · rw [if_neg (by rw [hq]; simp; omega), hwi]
        exact ih (i + 1) k (by omega) (by omega) (by rw [hq]; exact h5)
      · rw [if_pos (by rw [hq]; simp; omega), if_neg]
        intro hw5
        omega
  have := key w 0 k (by omega) hk (by simp)
  have h0 : rows_Few.l0 k 1 0 set (w : Int) = _ := this
  unfold rows_Few fewB
  rw [h0, hmd]
  by_cases h5 : m ^ w ≤ 5000
  · rw [if_pos h5]; simp [sumb, h5]
  · rw [if_neg h5]; simp [sumb, h5]
end Gp
set_option linter.unusedVariables false
set_option linter.unusedSimpArgs false
namespace Gq
open Gw
theorem mget_mput {κ ν : Type} [DecidableEq κ] (x y : κ) (z v : ν) : ∀ l : List (κ × ν), mget x z (mput y v l) = if x = y then v else mget x z l
  | [] => by simp [mput, mget]
  | p :: r => by
    simp only [mput]
    by_cases h : y = p.1
    · rw [if_pos h]
      simp only [mget]
      by_cases hx : x = y
      · rw [if_pos hx, if_pos hx]
      · rw [if_neg hx, if_neg hx, if_neg (fun e => hx (e.trans h.symm))]
    · rw [if_neg h]
      simp only [mget]
      by_cases hx : x = p.1
      · rw [if_pos hx, if_pos hx, if_neg (fun e => h (e.symm.trans hx))]
      · rw [if_neg hx, if_neg hx]; exact mget_mput x y z v r
theorem mget_marks {α κ : Type} [DecidableEq κ] (key : α → κ) (c : α → Bool) (x : κ) : ∀ (l : List α) (m : List (κ × Bool)), mget x false (l.foldl (fun m a => if c a = true then mput (key a) true m else m) m) = (mget x false m || l.any fun a => decide (key a = x) && c a)
  | [], m => by simp
  | a :: r, m => by
    rw [List.foldl_cons, mget_marks key c x r, List.any_cons]
    cases hc : c a
    · simp
    · simp only [if_true, mget_mput, Bool.and_true]
      by_cases h : x = key a
      · simp [h]
      · have : ¬ key a = x := fun e => h e.symm
        simp [h, this]
end Gq
namespace Gp
open Gw Gq
/-! ### rectangles that are filled -/
theorem word_beq (a b : A8_Int) : (a.e0 == b.e0 && (a.e1 == b.e1 && (a.e2 == b.e2 && (a.e3 == b.e3 && (a.e4 == b.e4 && (a.e5 == b.e5 && (a.e6 == b.e6 && a.e7 == b.e7))))))) = decide (a = b) := by
  rw [Bool.eq_iff_iff, decide_eq_true_eq]
  simp only [Bool.and_eq_true, beq_iff_eq]
  constructor
  · rintro ⟨h0, h1, h2, h3, h4, h5, h6, h7⟩; cases a; cases b; simp_all
  · intro h; subst h; simp
def atB (l : List Int) (i : Nat) (c : Int) : Bool := decide (l.length = 0) || l.getD i 0 == c
theorem at_eq' (l : List Int) (i : Nat) (c : Int) (h : l.length = 0 ∨ i < l.length) : fill_at l (i : Int) c = some (atB l i c) := by
  unfold fill_at atB
  by_cases h0 : l.length = 0
  · rw [if_pos (by simp [h0])]; simp [h0]
  · rw [if_neg (by simp; simpa using h0), if_pos (by omega), rdD_nat]; simp [h0]
structure EdgeOK (e : Edges) (w h : Nat) : Prop where
  n : e.North.length = 0 ∨ e.North.length = w
  s : e.South.length = 0 ∨ e.South.length = w
  ea : e.East.length = 0 ∨ e.East.length = h
  we : e.West.length = 0 ∨ e.West.length = h
def colE (e : Edges) (h : Nat) (r : Row) (y x : Nat) : Bool := (!(decide (y = 0)) || atB e.South x (r.South.get x)) && (!(decide (y + 1 = h)) || atB e.North x (r.North.get x))
def alB (e : Edges) (w h : Nat) (r : Row) (y : Nat) : Bool := atB e.West y r.West && atB e.East y r.East && (List.range w).all (colE e h r y)
theorem allows_eq {e : Edges} {w h : Nat} (he : EdgeOK e w h) (hw : w ≤ 8) (hh : h ≤ 1000) (R : List Row) (r : Row) {y : Nat} (hy : y < h) {k : Nat} (hk : w < k) : fill_job_allows k ⟨R, w, h, e⟩ r (y : Int) = some (alB e w h r y) := by
  have hl := loop_all (F := fun k x (_ : Unit) => fill_job_allows.l0 k x ⟨R, w, h, e⟩ r (y : Int)) (S := fun _ => ()) (b := colE e h r y) (n := w) (K := 0) (r := false) (e := ()) (fun k x _ hx => by
    show fill_job_allows.l0 (k + 1) x ⟨R, w, h, e⟩ r (y : Int) = if colE e h r y x = true then fill_job_allows.l0 k ((x + 1 : Nat) : Int) ⟨R, w, h, e⟩ r (y : Int) else _
    have hwx : w64 ((x : Int) + 1) = ((x + 1 : Nat) : Int) := by rw [w64_id (by omega) (by omega)]; rfl
    have hwh : w64 ((h : Int) - 1) = ((h - 1 : Nat) : Int) := by rw [w64_id (by omega) (by omega)]; omega
    have hx8 : 0 ≤ (x : Int) ∧ (x : Int) < 8 := by omega
    have hS := at_eq' e.South x (r.South.get x) (he.s.imp id (fun h => by omega))
    have hN := at_eq' e.North x (r.North.get x) (he.n.imp id (fun h => by omega))
    rw [fill_job_allows.l0, if_pos (by simpa using hx), hwx, hwh]
    simp only [if_pos hx8, hS, hN, Option.bind_some]
    have e1 : ((y : Int) == ((h - 1 : Nat) : Int)) = decide (y + 1 = h) := by
      rw [Bool.eq_iff_iff]; simp; omega
    have e0 : ((y : Int) == 0) = decide (y = 0) := by rw [Bool.eq_iff_iff]; simp
    rw [e1, e0]
    unfold colE
    cases decide (y = 0) <;> cases decide (y + 1 = h) <;> cases atB e.South x (r.South.get x) <;> cases atB e.North x (r.North.get x) <;> simp) (fun k => by
    show fill_job_allows.l0 (k + 1) w ⟨R, w, h, e⟩ r (y : Int) = _
    rw [fill_job_allows.l0, if_neg (by simp)]) k (by omega)
  have h0 : fill_job_allows.l0 k 0 ⟨R, w, h, e⟩ r (y : Int) = some (if (List.range w).all (colE e h r y) = true then .inr () else .inl false) := hl
  unfold fill_job_allows alB
  rw [at_eq' e.West y r.West (he.we.imp id (fun h => by omega)), at_eq' e.East y r.East (he.ea.imp id (fun h => by omega)), h0]
  simp only [Option.bind_some]
  cases atB e.West y r.West <;> cases atB e.East y r.East <;> cases (List.range w).all (colE e h r y) <;> simp [sumb]
def canUp (R : List Row) (al : Row → Nat → Bool) (h : Nat) : Nat → Row → Bool
  | 0, r => al r (h - 1)
  | n + 1, r => al r (h - 1 - (n + 1)) && R.any fun r' => decide (r'.South = r.North) && canUp R al h n r'
def OkAt (R : List Row) (al : Row → Nat → Bool) (h : Nat) (ok : List (Option (List (A8_Int × Bool)))) (y : Nat) : Prop := ∃ m, ok[y]? = some (some m) ∧ ∀ s, mget s false m = R.any fun r => decide (r.South = s) && canUp R al h (h - 1 - y) r
theorem first_l3 {e : Edges} {w h : Nat} (he : EdgeOK e w h) (hw : w ≤ 8) (hh : h ≤ 1000) (R : List Row) (hR : R.length ≤ 1000000) {y : Nat} (hy : y < h) (ok : List (Option (List (A8_Int × Bool)))) (hlen : ok.length = h) (hup : y + 1 < h → OkAt R (alB e w h) h ok (y + 1)) {k : Nat} (hk : R.length + w + 1 < k) :
    fill_First.l3 k (ok.set y (some [])) 0 (h : Int) e ⟨R, w, h, e⟩ (y : Int) = some (ok.set y (some (R.foldl (fun m r => if canUp R (alB e w h) h (h - 1 - y) r = true then mput r.South true m else m) []))) := by
  have hwh : w64 ((h : Int) - 1) = ((h - 1 : Nat) : Int) := by rw [w64_id (by omega) (by omega)]; omega
  have hwy : w64 ((y : Int) + 1) = ((y + 1 : Nat) : Int) := by rw [w64_id (by omega) (by omega)]; rfl
  have hl := loop_list (F := fun k i (m : List (A8_Int × Bool)) => fill_First.l3 k (ok.set y (some m)) i (h : Int) e ⟨R, w, h, e⟩ (y : Int)) R (fun m r => if canUp R (alB e w h) h (h - 1 - y) r = true then mput r.South true m else m) (w + 1) (fun _ _ => True) (fun m => ok.set y (some m)) (fun k i m hi hk _ => by
    refine ⟨?_, trivial⟩
    show fill_First.l3 (k + 1) (ok.set y (some m)) i (h : Int) e ⟨R, w, h, e⟩ (y : Int) = _
    have hwi : w64 ((i : Int) + 1) = ((i + 1 : Nat) : Int) := by rw [w64_id (by omega) (by omega)]; rfl
    have hal : ∀ r, fill_job_allows k (Job.mk R w h e) r (y : Int) = some (alB e w h r y) := fun r => allows_eq he hw hh R r hy (by omega)
    rw [fill_First.l3, if_pos (by simpa using hi), if_pos (by simp; omega)]
    simp only [hal, rdD_get hi, hwh, hwy, hwi, Option.bind_some]
    have hcond : (if (((y : Int) == ((h - 1 : Nat) : Int)) = true) then (some (alB e w h R[i] y)) else ((if alB e w h R[i] y = true then (if 0 ≤ ((y + 1 : Nat) : Int) ∧ ((y + 1 : Nat) : Int) < ((ok.set y (some m)).length : Int) then ((rdD (ok.set y (some m)) ((y + 1 : Nat) : Int) none).bind fun m5799 => (some (mget R[i].North false m5799))) else none) else (some false)).bind fun b => some b)) = some (canUp R (alB e w h) h (h - 1 - y) R[i]) := by
      by_cases hlast : y + 1 = h
      · rw [if_pos (by simp; omega)]
        have : h - 1 - y = 0 := by omega
        rw [this, canUp, show h - 1 = y by omega]
      · rw [if_neg (by simp; omega), if_pos (show 0 ≤ ((y + 1 : Nat) : Int) ∧ ((y + 1 : Nat) : Int) < ((ok.set y (some m)).length : Int) by simp; omega), rdD_nat]
        obtain ⟨m', hm1, hm2⟩ := hup (by omega)
        have hg : (ok.set y (some m)).getD (y + 1) none = some m' := by
          rw [List.getD_eq_getElem?_getD, List.getElem?_set_ne (by omega), hm1]; rfl
        rw [hg, Option.bind_some, hm2]
        have : h - 1 - y = (h - 1 - (y + 1)) + 1 := by omega
        rw [this, canUp, show h - 1 - (h - 1 - (y + 1) + 1) = y by omega]
        cases alB e w h R[i] y <;> rfl
    have hc2 := hcond
    rw [hc2, Option.bind_some]
    have hg : rdD (ok.set y (some m)) (y : Int) none = some m := by
      rw [rdD_nat, List.getD_eq_getElem?_getD, List.getElem?_set_self (by omega)]; rfl
    rw [hg]
    cases hcu : canUp R (alB e w h) h (h - 1 - y) R[i]
    · simp
    · simp only [if_true]
      rw [if_pos (by simp; omega)]
      simp [List.set_set]) (fun k m _ => by
    show fill_First.l3 (k + 1) (ok.set y (some m)) R.length (h : Int) e ⟨R, w, h, e⟩ (y : Int) = _
    rw [fill_First.l3, if_neg (by simp)]) [] trivial k (by omega)
  exact hl
theorem first_l2 {e : Edges} {w h : Nat} (he : EdgeOK e w h) (hw : w ≤ 8) (hh : h ≤ 1000) (R : List Row) (hR : R.length ≤ 1000000) : ∀ (n : Nat) (ok : List (Option (List (A8_Int × Bool)))) (k : Nat), n ≤ h → ok.length = h → (∀ y, n ≤ y → y < h → OkAt R (alB e w h) h ok y) → R.length + w + n + 2 < k →
    ∃ ok', fill_First.l2 k ok ((n : Int) - 1) (h : Int) e ⟨R, w, h, e⟩ = some ok' ∧ ok'.length = h ∧ ∀ y, y < h → OkAt R (alB e w h) h ok' y := by
  intro n
  induction n with
  | zero =>
    intro ok k hn hl hok hk
    obtain ⟨k, rfl⟩ : ∃ m, k = m + 1 := ⟨k - 1, by omega⟩
    exact ⟨ok, by rw [fill_First.l2, if_neg (by simp)], hl, fun y hy => hok y (by omega) hy⟩
  | succ n ih =>
    intro ok k hn hl hok hk
    obtain ⟨k, rfl⟩ : ∃ m, k = m + 1 := ⟨k - 1, by omega⟩
    have e1 : (((n + 1 : Nat) : Int) - 1) = (n : Int) := by omega
    rw [e1, fill_First.l2, if_pos (by simp), if_pos (by omega)]
    have hwn : w64 ((n : Int) - 1) = (n : Int) - 1 := w64_id (by omega) (by omega)
    rw [Int.toNat_natCast, first_l3 he hw hh R hR (by omega) ok hl (fun h1 => hok (n + 1) (by omega) h1) (by omega), Option.bind_some, hwn]
    refine ih _ k (by omega) (by simpa using hl) (fun y hy1 hy2 => ?_) (by omega)
    by_cases hyn : y = n
    · subst hyn
      refine ⟨_, List.getElem?_set_self (by omega), fun s => ?_⟩
      rw [mget_marks]; simp [mget]
    · obtain ⟨m, h1, h2⟩ := hok y (by omega) hy2
      exact ⟨m, by rw [List.getElem?_set_ne (by omega)]; exact h1, h2⟩
def firstIdx {α : Type} (p : α → Bool) : Nat → List α → Int
  | _, [] => -1
  | i, a :: r => if p a = true then (i : Int) else firstIdx p (i + 1) r
def belowB (R : List Row) (b : Option Nat) (r : Row) : Bool := match b with
  | none => true
  | some i => decide ((R.getD i z_Row).North = r.South)
def bz (b : Option Nat) : Option Int := b.map fun (i : Nat) => (i : Int)
theorem first_l5 {e : Edges} {w h : Nat} (he : EdgeOK e w h) (hw : w ≤ 8) (hh : h ≤ 1000) (R : List Row) (hR : R.length ≤ 1000000) {y : Nat} (hy : y < h) (ok : List (Option (List (A8_Int × Bool)))) (hlen : ok.length = h) (hok : ∀ y, y < h → OkAt R (alB e w h) h ok y) (b : Option Nat) (hb : ∀ i, b = some i → i < R.length) {k : Nat} (hk : R.length + w < k) :
    fill_First.l5 k (bz b) 0 (h : Int) e ⟨R, w, h, e⟩ ok (y : Int) = some (firstIdx (fun r => canUp R (alB e w h) h (h - 1 - y) r && belowB R b r) 0 R) := by
  have hwh : w64 ((h : Int) - 1) = ((h - 1 : Nat) : Int) := by rw [w64_id (by omega) (by omega)]; omega
  have hwy : w64 ((y : Int) + 1) = ((y + 1 : Nat) : Int) := by rw [w64_id (by omega) (by omega)]; rfl
  have key : ∀ d i k, i + d = R.length → d + w < k → fill_First.l5 k (bz b) (i : Int) (h : Int) e ⟨R, w, h, e⟩ ok (y : Int) = some (firstIdx (fun r => canUp R (alB e w h) h (h - 1 - y) r && belowB R b r) i (R.drop i)) := by
    intro d
    induction d with
    | zero =>
      intro i k hi hk
      obtain ⟨k, rfl⟩ : ∃ m, k = m + 1 := ⟨k - 1, by omega⟩
      have : i = R.length := by omega
      subst this
      rw [fill_First.l5, if_neg (by simp), List.drop_length]; rfl
    | succ d ih =>
      intro i k hi hk
      obtain ⟨k, rfl⟩ : ∃ m, k = m + 1 := ⟨k - 1, by omega⟩
      have hlt : i < R.length := by omega
      have hwi : w64 ((i : Int) + 1) = ((i + 1 : Nat) : Int) := by rw [w64_id (by omega) (by omega)]; rfl
      have hal : ∀ r, fill_job_allows k (Job.mk R w h e) r (y : Int) = some (alB e w h r y) := fun r => allows_eq he hw hh R r hy (by omega)
      have hbel : optM (bz b) (some true) (fun j => if 0 ≤ j ∧ j < (R.length : Int) then (some ((((rdD R j z_Row).North).e0) == (R[i].South.e0) && ((((rdD R j z_Row).North).e1) == (R[i].South.e1) && ((((rdD R j z_Row).North).e2) == (R[i].South.e2) && ((((rdD R j z_Row).North).e3) == (R[i].South.e3) && ((((rdD R j z_Row).North).e4) == (R[i].South.e4) && ((((rdD R j z_Row).North).e5) == (R[i].South.e5) && ((((rdD R j z_Row).North).e6) == (R[i].South.e6) && (((rdD R j z_Row).North).e7) == (R[i].South.e7))))))))) else none) = some (belowB R b R[i]) := by
        cases b with
        | none => rfl
        | some j =>
          have := hb j rfl
          show (if 0 ≤ (j : Int) ∧ (j : Int) < (R.length : Int) then _ else none) = _
          rw [if_pos (by omega), rdD_nat, word_beq]; rfl
      rw [fill_First.l5, if_pos (by simpa using hlt), if_pos (by simp; omega)]
      simp only [hal, rdD_get hlt, hwh, hwy, hwi, Option.bind_some, hbel]
      rw [List.drop_eq_getElem_cons hlt, firstIdx]
      have hcond : (if (((y : Int) == ((h - 1 : Nat) : Int)) = true) then ((if alB e w h R[i] y = true then (some (belowB R b R[i])) else (some false)).bind fun b => some b) else ((if alB e w h R[i] y = true then (some (belowB R b R[i])) else (some false)).bind fun b5786 => (if b5786 = true then (if 0 ≤ ((y + 1 : Nat) : Int) ∧ ((y + 1 : Nat) : Int) < (ok.length : Int) then ((rdD ok ((y + 1 : Nat) : Int) none).bind fun m5799 => (some (mget R[i].North false m5799))) else none) else (some false)).bind fun b => some b)) = some (canUp R (alB e w h) h (h - 1 - y) R[i] && belowB R b R[i]) := by
        by_cases hlast : y + 1 = h
        · rw [if_pos (by simp; omega)]
          have : h - 1 - y = 0 := by omega
          rw [this, canUp, show h - 1 = y by omega]
          cases alB e w h R[i] y <;> simp
        · rw [if_neg (by simp; omega), if_pos (show 0 ≤ ((y + 1 : Nat) : Int) ∧ ((y + 1 : Nat) : Int) < (ok.length : Int) by omega), rdD_nat]
          obtain ⟨m', hm1, hm2⟩ := hok (y + 1) (by omega)
          have hg : ok.getD (y + 1) none = some m' := by rw [List.getD_eq_getElem?_getD, hm1]; rfl
          rw [hg, Option.bind_some, hm2]
          have : h - 1 - y = (h - 1 - (y + 1)) + 1 := by omega
          rw [this, canUp, show h - 1 - (h - 1 - (y + 1) + 1) = y by omega]
          cases alB e w h R[i] y <;> cases belowB R b R[i] <;> simp
      have hc2 := hcond
      rw [hc2, Option.bind_some]
      cases hcu : (canUp R (alB e w h) h (h - 1 - y) R[i] && belowB R b R[i])
      · simp only [Bool.false_eq_true, if_false]
        exact ih (i + 1) k (by omega) (by omega)
      · rfl
  have := key R.length 0 k (by omega) hk
  simpa using this
end Gp
set_option linter.unusedVariables false
set_option linter.unusedSimpArgs false
namespace Gp
open Gw Gq
theorem firstIdx_eq {α : Type} (p : α → Bool) : ∀ (l : List α) (i : Nat), firstIdx p i l = match l.findIdx? p with
    | none => -1
    | some j => ((i + j : Nat) : Int)
  | [], i => rfl
  | a :: r, i => by
    rw [firstIdx, List.findIdx?_cons]
    cases p a
    · simp only [Bool.false_eq_true, if_false]
      rw [firstIdx_eq p r (i + 1)]
      cases r.findIdx? p with
      | none => rfl
      | some j => simp only [Option.map_some]; congr 1; omega
    · simp
def greedy (R : List Row) (al : Row → Nat → Bool) (h : Nat) : Nat → Option Nat → Option (List Nat)
  | 0, _ => some []
  | m + 1, b => match R.findIdx? (fun r => canUp R al h m r && belowB R b r) with
    | none => none
    | some i => (greedy R al h m (some i)).map (i :: ·)
def cellsOf (R : List Row) (l : List Nat) : List Int := l.flatMap fun i => (R.getD i z_Row).Cells
def p0P : Pattern := ⟨0, 0, []⟩
theorem findIdx_lt {α : Type} {p : α → Bool} {l : List α} {i : Nat} (h : l.findIdx? p = some i) : ∃ hi : i < l.length, p l[i] = true := by
  rw [List.findIdx?_eq_some_iff_getElem] at h
  exact ⟨h.1, h.2.1⟩
theorem first_l4 {e : Edges} {w h : Nat} (he : EdgeOK e w h) (hw : w ≤ 8) (hh : h ≤ 1000) (R : List Row) (hR : R.length ≤ 1000000) (hC : ∀ r ∈ R, r.Cells.length ≤ 8) (ok : List (Option (List (A8_Int × Bool)))) (hlen : ok.length = h) (hok : ∀ y, y < h → OkAt R (alB e w h) h ok y) :
    ∀ (m : Nat) (cells : List Int) (b : Option Nat) (k : Nat), m ≤ h → (∀ i, b = some i → i < R.length) → cells.length + 8 * m ≤ 100000000000 → m + R.length + w + 1 < k →
      fill_First.l4 k cells (bz b) ((h - m : Nat) : Int) (h : Int) e ⟨R, w, h, e⟩ ok = some (match greedy R (alB e w h) h m b with
        | none => .inl (p0P, 6)
        | some l => .inr (cells ++ cellsOf R l)) := by
  intro m
  induction m with
  | zero =>
    intro cells b k hm hb hc hk
    obtain ⟨k, rfl⟩ : ∃ m, k = m + 1 := ⟨k - 1, by omega⟩
    rw [fill_First.l4, if_neg (by simp)]
    simp [greedy, cellsOf]
  | succ m ih =>
    intro cells b k hm hb hc hk
    obtain ⟨k, rfl⟩ : ∃ m, k = m + 1 := ⟨k - 1, by omega⟩
    have hwy : w64 (((h - (m + 1) : Nat) : Int) + 1) = ((h - m : Nat) : Int) := by rw [w64_id (by omega) (by omega)]; omega
    rw [fill_First.l4, if_pos (by simp; omega), first_l5 he hw hh R hR (y := h - (m + 1)) (by omega) ok hlen hok b hb (by omega), Option.bind_some, firstIdx_eq, greedy, show h - 1 - (h - (m + 1)) = m by omega]
    cases hf : R.findIdx? (fun r => canUp R (alB e w h) h m r && belowB R b r) with
    | none => simp [p0P]
    | some i =>
      obtain ⟨hi, _⟩ := findIdx_lt hf
      have hCi := hC R[i] (List.getElem_mem _)
      have hzi : ((0 + i : Nat) : Int) = (i : Int) := by omega
      simp only [hzi]
      rw [if_neg (by simp), if_pos (by omega), rdD_get hi, if_pos (by omega), hwy]
      have := ih (cells ++ R[i].Cells) (some i) k (by omega) (fun j hj => by injection hj with hj; omega) (by rw [List.length_append]; omega) (by omega)
      have this' : fill_First.l4 k (cells ++ R[i].Cells) (some (i : Int)) ((h - m : Nat) : Int) (h : Int) e ⟨R, w, h, e⟩ ok = _ := this
      rw [this']
      cases greedy R (alB e w h) h m (some i) with
      | none => rfl
      | some l =>
        simp only [Option.map_some]
        simp [cellsOf, List.getElem?_eq_getElem hi]
/-! the whole function -/
def sidesB (e : Edges) (w h : Int) : Bool := (decide (e.North.length = 0) || decide ((e.North.length : Int) = w)) && (decide (e.South.length = 0) || decide ((e.South.length : Int) = w)) && (decide (e.East.length = 0) || decide ((e.East.length : Int) = h)) && (decide (e.West.length = 0) || decide ((e.West.length : Int) = h))
theorem begin_l0 (e : Edges) (w h : Int) (k : Nat) : fill_begin.l0 (k + 5) 0 w h e = some (if sidesB e w h = true then .inr () else .inl (none, 2)) := by
  have hside : ∀ (l : List Int) (n : Int), ((((l.length : Int) != 0) && ((l.length : Int) != n)) = !(decide (l.length = 0) || decide ((l.length : Int) = n))) := fun l n => by
    rw [Bool.eq_iff_iff]; simp
  have h1 : w64 (0 + 1) = 1 := by rw [w64_id (by omega) (by omega)]; rfl
  have h2 : w64 (1 + 1) = 2 := by rw [w64_id (by omega) (by omega)]; rfl
  have h3 : w64 (2 + 1) = 3 := by rw [w64_id (by omega) (by omega)]; rfl
  have h4 : w64 (3 + 1) = 4 := by rw [w64_id (by omega) (by omega)]; rfl
  unfold sidesB
  rw [fill_begin.l0, if_pos (by simp), if_pos (by simp), show rdD [(S_side_n.mk e.North w), (S_side_n.mk e.South w), (S_side_n.mk e.East h), (S_side_n.mk e.West h)] 0 z_S_side_n = S_side_n.mk e.North w from rfl, h1, hside]
  cases ha : (decide (e.North.length = 0) || decide ((e.North.length : Int) = w))
  · simp
  rw [if_neg (by simp), fill_begin.l0, if_pos (by simp), if_pos (by simp), show rdD [(S_side_n.mk e.North w), (S_side_n.mk e.South w), (S_side_n.mk e.East h), (S_side_n.mk e.West h)] 1 z_S_side_n = S_side_n.mk e.South w from rfl, h2, hside]
  cases hb : (decide (e.South.length = 0) || decide ((e.South.length : Int) = w))
  · simp
  rw [if_neg (by simp), fill_begin.l0, if_pos (by simp), if_pos (by simp), show rdD [(S_side_n.mk e.North w), (S_side_n.mk e.South w), (S_side_n.mk e.East h), (S_side_n.mk e.West h)] 2 z_S_side_n = S_side_n.mk e.East h from rfl, h3, hside]
  cases hc : (decide (e.East.length = 0) || decide ((e.East.length : Int) = h))
  · simp
  rw [if_neg (by simp), fill_begin.l0, if_pos (by simp), if_pos (by simp), show rdD [(S_side_n.mk e.North w), (S_side_n.mk e.South w), (S_side_n.mk e.East h), (S_side_n.mk e.West h)] 3 z_S_side_n = S_side_n.mk e.West h from rfl, h4, hside]
  cases hd : (decide (e.West.length = 0) || decide ((e.West.length : Int) = h))
  · simp
  rw [if_neg (by simp), fill_begin.l0, if_neg (by simp)]
  simp
theorem max_pow {n w : Nat} (h : fewB n w = true) : n ^ w ≤ 5000 := by
  unfold fewB at h
  rw [decide_eq_true_eq] at h
  exact Nat.le_trans (Nat.pow_le_pow_left (Nat.le_max_left n 1) w) h
def firstX (set : List Tile) (w h : Nat) (e : Edges) : Pattern × Int := match greedy (allR set w) (alB e w h) h h none with
  | none => (p0P, 6)
  | some l => (⟨w, h, cellsOf (allR set w) l⟩, 0)
theorem allR_len (set : List Tile) (w : Nat) : (allR set w).length ≤ set.length ^ w := by
  unfold allR; rw [List.length_map]; exact rowsL_len set w []
theorem rowsL_length (set : List Tile) : ∀ (n : Nat) (c d : List Nat), d ∈ rowsL set n c → d.length = c.length + n
  | 0, c, d, h => by simp [rowsL] at h; subst h; rfl
  | n + 1, c, d, h => by
    rw [rowsL, List.mem_flatMap] at h
    obtain ⟨i, _, h⟩ := h
    have := rowsL_length set n _ d h
    simp at this; omega
theorem first_ok (set : List Tile) (w h : Nat) (e : Edges) (hv : validT set = true) (hw : 1 ≤ w ∧ w ≤ 8) (hh : 1 ≤ h ∧ h ≤ 60) (he : sidesB e w h = true) (hf : fewB set.length w = true) {k : Nat} (hk : 10000 < k) : fill_First k set w h e = some (firstX set w h e) := by
  have hl := valid_len hv
  have hp := max_pow hf
  have hRl := allR_len set w
  have heo : EdgeOK e w h := by
    unfold sidesB at he
    simp only [Bool.and_eq_true, Bool.or_eq_true, decide_eq_true_eq] at he
    exact ⟨he.1.1.1.imp id (fun h => by omega), he.1.1.2.imp id (fun h => by omega), he.1.2.imp id (fun h => by omega), he.2.imp id (fun h => by omega)⟩
  have hC : ∀ r ∈ allR set w, r.Cells.length ≤ 8 := by
    intro r hr
    unfold allR at hr
    obtain ⟨c, hc, rfl⟩ := List.mem_map.1 hr
    have := rowsL_length set w [] c hc
    simp [mkR, cz]; simp at this; omega
  obtain ⟨j, rfl⟩ : ∃ j, k = j + 5 := ⟨k - 5, by omega⟩
  unfold fill_First fill_begin
  rw [tile_valid set (by omega) (by omega), hv, Option.bind_some, if_neg (by simp), if_neg (by simp; omega), begin_l0, he, few_eq set w (by omega) (by omega) (by omega), hf, all_eq set w hw.1 hw.2 (by omega) (by omega) (by omega)]
  simp only [if_true, Option.bind_some, sumb, Bool.not_true, Bool.false_eq_true, if_false, optM, bne_self_eq_false]
  have hwh : w64 ((h : Int) - 1) = (h : Int) - 1 := w64_id (by omega) (by omega)
  rw [if_pos (by omega), Int.toNat_natCast, hwh]
  obtain ⟨ok', e1, l1, o1⟩ := first_l2 heo hw.2 (by omega) (allR set w) (by omega) h (List.replicate h none) (j + 5) (Nat.le_refl _) (by simp) (fun y h1 h2 => by omega) (by omega)
  rw [e1, Option.bind_some]
  have e2 := first_l4 heo hw.2 (by omega) (allR set w) (by omega) hC ok' l1 o1 h [] none (j + 5) (Nat.le_refl _) (fun i hi => by cases hi) (by simp; omega) (by omega)
  rw [Nat.sub_self] at e2
  have e2' : fill_First.l4 (j + 5) [] none 0 (h : Int) e ⟨allR set w, w, h, e⟩ ok' = _ := e2
  rw [e2', Option.bind_some]
  unfold firstX
  cases greedy (allR set w) (alB e w h) h h none with
  | none => rfl
  | some l => simp [sumb]
theorem first_bad (set : List Tile) (w h : Int) (e : Edges) (hl : set.length ≤ 9223372036854775807) {k : Nat} (hk : 10000 < k) :
    (validT set = false → fill_First k set w h e = some (p0P, 1)) ∧ (validT set = true → ¬ (1 ≤ w ∧ w ≤ 8 ∧ 1 ≤ h ∧ h ≤ 60) → fill_First k set w h e = some (p0P, 2)) ∧
    (validT set = true → (1 ≤ w ∧ w ≤ 8 ∧ 1 ≤ h ∧ h ≤ 60) → sidesB e w h = false → fill_First k set w h e = some (p0P, 2)) ∧ (validT set = true → (1 ≤ w ∧ w ≤ 8 ∧ 1 ≤ h ∧ h ≤ 60) → sidesB e w h = true → fewB set.length w.toNat = false → fill_First k set w h e = some (p0P, 4)) := by
  obtain ⟨j, rfl⟩ : ∃ j, k = j + 5 := ⟨k - 5, by omega⟩
  unfold fill_First fill_begin
  rw [tile_valid set (by omega) hl]
  refine ⟨fun hv => ?_, fun hv hn => ?_, fun hv hn hs => ?_, fun hv hn hs hf => ?_⟩
  · rw [hv]; rfl
  · rw [hv, Option.bind_some, if_neg (by simp), if_pos (by simp; omega)]; rfl
  · rw [hv, Option.bind_some, if_neg (by simp), if_neg (by simp; omega), begin_l0, hs]; rfl
  · have h8 := valid_len hv
    have hfe := few_eq set w.toNat (by omega) (by omega) (k := j + 5) (by omega)
    rw [Int.toNat_of_nonneg (by omega)] at hfe
    rw [hv, Option.bind_some, if_neg (by simp), if_neg (by simp; omega), begin_l0, hs, hfe, hf]; rfl
end Gp
set_option linter.unusedVariables false
set_option linter.unusedSimpArgs false
namespace Gp
open Gw Gq
/-! ### rows and patterns -/
theorem mem_rowsL0 (set : List Tile) : ∀ (n : Nat) (pre c : List Nat), c ∈ rowsL set n pre ↔ c.take pre.length = pre ∧ c.length = pre.length + n ∧ ∀ j, pre.length ≤ j → j < c.length → c.getD j 0 < set.length ∧ follows set (c.take j) (c.getD j 0) = true
  | 0, pre, c => by
    rw [rowsL, List.mem_singleton]
    constructor
    · intro h; subst h; exact ⟨List.take_length, rfl, fun j h1 h2 => by omega⟩
    · rintro ⟨h1, h2, _⟩
      rw [← h1, List.take_of_length_le (by omega)]
  | n + 1, pre, c => by
    rw [rowsL, List.mem_flatMap]
    constructor
    · rintro ⟨i, hi, hc⟩
      rw [List.mem_filter, List.mem_range] at hi
      obtain ⟨h1, h2, h3⟩ := (mem_rowsL0 set n (pre ++ [i]) c).1 hc
      rw [List.length_append, List.length_singleton] at h1 h2 h3
      have hp : c.take pre.length = pre := by
        have : c.take pre.length = (c.take (pre.length + 1)).take pre.length := by rw [List.take_take, Nat.min_eq_left (by omega)]
        rw [this, h1]; simp
      refine ⟨hp, by omega, fun j hj1 hj2 => ?_⟩
      by_cases e : j = pre.length
      · subst e
        have hg : c.getD pre.length 0 = i := by
          have h5 : (c.take (pre.length + 1))[pre.length]? = some i := by rw [h1]; simp
          rw [List.getElem?_take, if_pos (by omega)] at h5
          rw [List.getD_eq_getElem?_getD, h5]; rfl
        rw [hg, hp]; exact hi
      · exact h3 j (by omega) hj2
    · rintro ⟨h1, h2, h3⟩
      have hlt : pre.length < c.length := by omega
      obtain ⟨h4, h5⟩ := h3 pre.length (Nat.le_refl _) hlt
      rw [h1] at h5
      refine ⟨c.getD pre.length 0, ?_, (mem_rowsL0 set n _ c).2 ⟨?_, by simp; omega, fun j hj1 hj2 => h3 j (by simp at hj1; omega) hj2⟩⟩
      · rw [List.mem_filter, List.mem_range]; exact ⟨h4, h5⟩
      · rw [List.length_append, List.length_singleton, List.take_add_one, h1, List.getElem?_eq_getElem hlt]
        simp [List.getElem?_eq_getElem hlt]
structure RowOK (set : List Tile) (w : Nat) (c : List Nat) : Prop where
  len : c.length = w
  lt : ∀ x, x < w → c.getD x 0 < set.length
  adj : ∀ x, x + 1 < w → (tat set (c.getD x 0)).E = (tat set (c.getD (x + 1) 0)).W
theorem follows_take (set : List Tile) (c : List Nat) (j : Nat) (hj : j < c.length) (i : Nat) : follows set (c.take (j + 1)) i = ((tat set (c.getD j 0)).E == (tat set i).W) := by
  unfold follows
  have : (c.take (j + 1)).getLast? = some (c.getD j 0) := by
    have e : c.take (j + 1) = c.take j ++ [c[j]] := by rw [List.take_add_one, List.getElem?_eq_getElem hj]; rfl
    rw [e, List.getLast?_append]
    simp [List.getElem?_eq_getElem hj]
  rw [this]
theorem mem_rowsL (set : List Tile) (w : Nat) (c : List Nat) : c ∈ rowsL set w [] ↔ RowOK set w c := by
  rw [mem_rowsL0]
  constructor
  · rintro ⟨_, h2, h3⟩
    have hl : c.length = w := by simpa using h2
    refine ⟨hl, fun x hx => (h3 x (by simp) (by omega)).1, fun x hx => ?_⟩
    have := (h3 (x + 1) (by simp) (by omega)).2
    rw [follows_take set c x (by omega)] at this
    exact eq_of_beq this
  · rintro ⟨h1, h2, h3⟩
    refine ⟨by simp, by simp [h1], fun j _ hj => ⟨h2 j (by omega), ?_⟩⟩
    cases j with
    | zero => simp [follows]
    | succ j => rw [follows_take set c j (by omega), h3 j (by omega)]; simp
def sideN (set : List Tile) (c : List Nat) : List Int := c.map fun i => (tat set i).N
def sideS (set : List Tile) (c : List Nat) : List Int := c.map fun i => (tat set i).S
structure Fill (set : List Tile) (w h : Nat) (f : Nat → List Nat) : Prop where
  row : ∀ y, y < h → RowOK set w (f y)
  up : ∀ y, y + 1 < h → sideN set (f y) = sideS set (f (y + 1))
theorem mem_allR (set : List Tile) (w : Nat) (r : Row) : r ∈ allR set w ↔ ∃ c, RowOK set w c ∧ r = mkR set c := by
  unfold allR
  rw [List.mem_map]
  constructor
  · rintro ⟨c, hc, rfl⟩; exact ⟨c, (mem_rowsL set w c).1 hc, rfl⟩
  · rintro ⟨c, hc, rfl⟩; exact ⟨c, (mem_rowsL set w c).2 hc, rfl⟩
theorem mkR_sides {set : List Tile} {w : Nat} (hw : w ≤ 8) {c d : List Nat} (hc : c.length = w) (hd : d.length = w) : (mkR set d).South = (mkR set c).North ↔ sideN set c = sideS set d := by
  show wordOf (sideS set d) = wordOf (sideN set c) ↔ _
  rw [wordOf_inj (by simp [sideS]; omega) (by simp [sideS, sideN]; omega)]
  exact eq_comm
def patR (w h : Nat) (f : Nat → List Nat) : Pattern := ⟨w, h, (List.range h).flatMap fun y => cz (f y)⟩
theorem patR_cells {set : List Tile} {w h : Nat} {f : Nat → List Nat} (hf : Fill set w h f) : (patR w h f).Cells.length = h * w ∧ ∀ x y, x < w → y < h → (patR w h f).Cells.getD (y * w + x) 0 = (((f y).getD x 0 : Nat) : Int) := by
  have key : ∀ n, n ≤ h → ((List.range n).flatMap fun y => cz (f y)).length = n * w := by
    intro n
    induction n with
    | zero => intro _; simp
    | succ n ih =>
      intro hn
      rw [flat_succ, List.length_append, ih (by omega), Nat.add_mul]
      have := (hf.row n (by omega)).len
      simp [cz, this]
  refine ⟨key h (Nat.le_refl _), fun x y hx hy => ?_⟩
  have hsplit : ∀ n, y < n → n ≤ h → ((List.range n).flatMap fun y => cz (f y))[y * w + x]? = some (((f y).getD x 0 : Nat) : Int) := by
    intro n
    induction n with
    | zero => intro h; omega
    | succ n ih =>
      intro hy hn
      rw [flat_succ, List.getElem?_append, key n (by omega)]
      by_cases e : y = n
      · subst e
        have hl := (hf.row y (by omega)).len
        rw [if_neg (by omega), show y * w + x - y * w = x by omega]
        simp [cz, List.getElem?_map, List.getElem?_eq_getElem (show x < (f y).length by omega)]
      · rw [if_pos (place_lt hx (by omega))]; exact ih (by omega) (by omega)
  show ((List.range h).flatMap fun y => cz (f y)).getD (y * w + x) 0 = _
  rw [List.getD_eq_getElem?_getD, hsplit h hy (Nat.le_refl _)]; rfl
end Gp
set_option linter.unusedVariables false
set_option linter.unusedSimpArgs false
namespace Gp
open Gw Gq
/-! ### squares -/
def e0 : Edges := Edges.mk ([] : List Int) ([] : List Int) ([] : List Int) ([] : List Int)
theorem greedy_path (R : List Row) (al : Row → Nat → Bool) (h : Nat) : ∀ (m : Nat) (b : Option Nat) (l : List Nat), greedy R al h m b = some l → l.length = m ∧ (∀ j, j < m → l.getD j 0 < R.length ∧ canUp R al h (m - 1 - j) (R.getD (l.getD j 0) z_Row) = true) ∧ (∀ j, j + 1 < m → (R.getD (l.getD j 0) z_Row).North = (R.getD (l.getD (j + 1) 0) z_Row).South) ∧ (∀ i, b = some i → 0 < m → (R.getD i z_Row).North = (R.getD (l.getD 0 0) z_Row).South)
  | 0, b, l, hg => by
    simp [greedy] at hg; subst hg
    exact ⟨rfl, fun j hj => by omega, fun j hj => by omega, fun i _ h => by omega⟩
  | m + 1, b, l, hg => by
    rw [greedy] at hg
    cases hf : R.findIdx? (fun r => canUp R al h m r && belowB R b r) with
    | none => rw [hf] at hg; cases hg
    | some i =>
      obtain ⟨hi, hp⟩ := findIdx_lt hf
      rw [Bool.and_eq_true] at hp
      simp only [hf] at hg
      cases hg2 : greedy R al h m (some i) with
      | none => rw [hg2] at hg; cases hg
      | some l' =>
        rw [hg2] at hg
        simp only [Option.map_some, Option.some.injEq] at hg
        subst hg
        obtain ⟨h1, h2, h3, h4⟩ := greedy_path R al h m (some i) l' hg2
        have hgi : R.getD i z_Row = R[i] := by simp [List.getElem?_eq_getElem hi]
        refine ⟨by simp [h1], fun j hj => ?_, fun j hj => ?_, fun i' hb _ => ?_⟩
        · cases j with
          | zero => exact ⟨hi, by rw [show (i :: l').getD 0 0 = i from rfl, hgi]; exact hp.1⟩
          | succ j =>
            have := h2 j (by omega)
            rw [show (i :: l').getD (j + 1) 0 = l'.getD j 0 by simp, show m + 1 - 1 - (j + 1) = m - 1 - j by omega]
            exact this
        · cases j with
          | zero =>
            rw [show (i :: l').getD 0 0 = i from rfl, show (i :: l').getD (0 + 1) 0 = l'.getD 0 0 by simp]
            exact h4 i rfl (by omega)
          | succ j =>
            rw [show (i :: l').getD (j + 1) 0 = l'.getD j 0 by simp, show (i :: l').getD (j + 1 + 1) 0 = l'.getD (j + 1) 0 by simp]
            exact h3 j (by omega)
        · subst hb
          have := hp.2
          simp only [belowB, decide_eq_true_eq] at this
          rw [show (i :: l').getD 0 0 = i from rfl, hgi]; exact this
theorem first_pat (set : List Tile) {w h : Nat} (e : Edges) (hw : w ≤ 8) (hh : 1 ≤ h) (h0 : (firstX set w h e).2 = 0) : ∃ f, Fill set w h f ∧ (∀ y, y < h → alB e w h (mkR set (f y)) y = true) ∧ (firstX set w h e).1 = patR w h f := by
  unfold firstX at h0 ⊢
  cases hg : greedy (allR set w) (alB e w h) h h none with
  | none => rw [hg] at h0; cases h0
  | some l =>
    obtain ⟨h1, h2, h3, _⟩ := greedy_path _ _ _ _ _ _ hg
    have hR : ∀ y, y < h → ∃ c, RowOK set w c ∧ (allR set w).getD (l.getD y 0) z_Row = mkR set c := fun y hy => by
      obtain ⟨a, _⟩ := h2 y hy
      have : (allR set w).getD (l.getD y 0) z_Row ∈ allR set w := by
        rw [List.getD_eq_getElem?_getD, List.getElem?_eq_getElem a]; exact List.getElem_mem _
      exact (mem_allR set w _).1 this
    have hex : ∀ y, ∃ c, y < h → RowOK set w c ∧ (allR set w).getD (l.getD y 0) z_Row = mkR set c := fun y => by
      by_cases hy : y < h
      · obtain ⟨c, hc⟩ := hR y hy; exact ⟨c, fun _ => hc⟩
      · exact ⟨[], fun h => absurd h hy⟩
    obtain ⟨f, hf⟩ : ∃ f : Nat → List Nat, ∀ y, y < h → RowOK set w (f y) ∧ (allR set w).getD (l.getD y 0) z_Row = mkR set (f y) := ⟨fun y => Classical.choose (hex y), fun y => Classical.choose_spec (hex y)⟩
    refine ⟨f, ⟨fun y hy => (hf y hy).1, fun y hy => ?_⟩, fun y hy => ?_, ?_⟩
    · have := h3 y (by omega)
      rw [(hf y (by omega)).2, (hf (y + 1) hy).2] at this
      exact (mkR_sides hw (hf y (by omega)).1.len (hf (y + 1) hy).1.len).1 this.symm
    · have hc := (h2 y hy).2
      rw [(hf y hy).2] at hc
      have : (alB e w h) (mkR set (f y)) (h - 1 - (h - 1 - y)) = true := by
        cases hm : h - 1 - y with
        | zero => rw [hm, canUp] at hc; simpa using hc
        | succ n => rw [hm, canUp, Bool.and_eq_true] at hc; exact hc.1
      rwa [show h - 1 - (h - 1 - y) = y by omega] at this
    · show Pattern.mk _ _ _ = Pattern.mk _ _ _
      congr 1
      unfold cellsOf
      have : l = (List.range h).map fun y => l.getD y 0 := by
        apply List.ext_getElem
        · simp [h1]
        · intro n a b; simp [List.getElem?_eq_getElem a]
      rw [this, List.flatMap_map]
      have key : ∀ L : List Nat, (∀ y ∈ L, y < h) → (L.flatMap fun y => ((allR set w).getD (((List.range h).map fun y => l.getD y 0).getD y 0) z_Row).Cells) = L.flatMap fun y => cz (f y) := by
        intro L
        induction L with
        | nil => intro _; rfl
        | cons y L ih =>
          intro hL
          have hy := hL y (by simp)
          rw [List.flatMap_cons, List.flatMap_cons, ih (fun z hz => hL z (by simp [hz])), ← this, (hf y hy).2]; rfl
      have k2 := key (List.range h) (fun y hy => List.mem_range.1 hy)
      rw [← this] at k2
      exact k2
end Gp
set_option linter.unusedVariables false
set_option linter.unusedSimpArgs false
namespace Gp
open Gw Gq
/-! ### tori -/
end Gp
set_option linter.unusedVariables false
set_option linter.unusedSimpArgs false
namespace Gp
open Gw Gq
/-! tori and patterns -/
end Gp
set_option linter.unusedVariables false
set_option linter.unusedSimpArgs false
namespace Gp
open Gw Gq
end Gp
set_option linter.unusedVariables false
set_option linter.unusedSimpArgs false
namespace Gp
open Gw Gq
/-! ### three tiles: a torus, or no square of side four -/
/-! masks of a set -/
def hR (set : List Tile) (i j : Nat) : Bool := decide (i < set.length ∧ j < set.length ∧ (tat set i).E = (tat set j).W)
end Gp
set_option linter.unusedVariables false
set_option linter.unusedSimpArgs false
namespace Gp
open Gw Gq
/-! ### the least torus -/
/-! ### the decision -/
end Gp
set_option linter.unusedVariables false
set_option linter.unusedSimpArgs false
namespace Gp
open Gw Gq
/-! ### fillings as grids; turned and renamed sets -/
end Gp
set_option linter.unusedVariables false
set_option linter.unusedSimpArgs false
namespace Gp
open Gw Gq
/-! ### a set with one tile more -/
end Gp
set_option linter.unusedVariables false
set_option linter.unusedSimpArgs false
namespace Gp
open Gw Gq
/-! ### torus.Find -/
theorem power_l0 (b n : Nat) (hb : b ≤ 1000000) (hn : n ≤ 1000) : ∀ (d i k : Nat), i + d = n → d < k → ref02_Power.l0 k (min (b ^ i) 1000000 : Nat) i b n = some ((min (b ^ n) 1000000 : Nat) : Int)
  | 0, i, k, e, hk => by
    obtain ⟨k, rfl⟩ : ∃ m, k = m + 1 := ⟨k - 1, by omega⟩
    have : i = n := by omega
    subst this
    rw [ref02_Power.l0, if_neg (by simp)]
  | d + 1, i, k, e, hk => by
    obtain ⟨k, rfl⟩ : ∃ m, k = m + 1 := ⟨k - 1, by omega⟩
    have ih := power_l0 b n hb hn d (i + 1) k (by omega) (by omega)
    have hwi : w64 ((i : Int) + 1) = ((i + 1 : Nat) : Int) := by rw [w64_id (by omega) (by omega)]; rfl
    have hm : (min (b ^ i) 1000000) * b ≤ 1000000 * 1000000 := Nat.mul_le_mul (Nat.min_le_right _ _) hb
    have hmul : ((min (b ^ i) 1000000 : Nat) : Int) * (b : Int) = (((min (b ^ i) 1000000) * b : Nat) : Int) := (Int.natCast_mul _ _).symm
    have key : min (min (b ^ i) 1000000 * b) 1000000 = min (b ^ (i + 1)) 1000000 := by
      rw [Nat.pow_succ]
      by_cases hx : b ^ i ≤ 1000000
      · rw [Nat.min_eq_left hx]
      · rw [Nat.min_eq_right (by omega : 1000000 ≤ b ^ i)]
        have h0 : 0 < b := by
          rcases Nat.eq_zero_or_pos b with h0 | h0
          · exfalso; subst h0
            have := Nat.pow_le_pow_left (by omega : 0 ≤ 1) i
            rw [Nat.one_pow] at this; omega
          · exact h0
        have a1 : 1000000 ≤ 1000000 * b := Nat.le_mul_of_pos_right _ h0
        have a2 : b ^ i ≤ b ^ i * b := Nat.le_mul_of_pos_right _ h0
        rw [Nat.min_eq_right a1, Nat.min_eq_right (by omega)]
    obtain ⟨M, hM⟩ : ∃ M, min (b ^ i) 1000000 * b = M := ⟨_, rfl⟩
    rw [hM] at hm hmul key
    have hmin : minI (M : Int) 1000000 = ((min (b ^ (i + 1)) 1000000 : Nat) : Int) := by
      rw [← key]; unfold minI; split <;> omega
    rw [ref02_Power.l0, if_pos (by simp; omega), hmul, w64_id (n := (M : Int)) (by omega) (by omega), hmin, hwi]
    exact ih
theorem power_eq (b n : Nat) (hb : b ≤ 1000000) (hn : n ≤ 1000) {k : Nat} (hk : n < k) : ref02_Power k b n = some ((min (b ^ n) 1000000 : Nat) : Int) := by
  have := power_l0 b n hb hn n 0 k (by omega) hk
  rw [Nat.pow_zero] at this
  have this : ref02_Power.l0 k 1 0 b n = _ := this
  unfold ref02_Power
  rw [this]; rfl
theorem great_eq (s : List Tile) (hl : s.length ≤ 1000) {w : Nat} (hw : 1 ≤ w ∧ w ≤ 60) {k : Nat} (hk : 1000 < k) : ref02_Great k s w = some (!fewB s.length w) := by
  unfold ref02_Great
  rw [power_eq s.length w (by omega) (by omega) (by omega), Option.bind_some]
  congr 1
  unfold fewB
  by_cases h : (max s.length 1) ^ w ≤ 5000
  · rw [decide_eq_true h]
    have : s.length ^ w ≤ (max s.length 1) ^ w := Nat.pow_le_pow_left (by omega) w
    exact decide_eq_false (by omega)
  · rw [decide_eq_false h]
    have : s.length ^ w = (max s.length 1) ^ w := by
      rcases Nat.eq_zero_or_pos s.length with h0 | h0
      · exfalso; rw [h0] at h; exact h (by simp)
      · rw [show max s.length 1 = s.length by omega]
    exact decide_eq_true (by omega)
/-! multiples -/
end Gp
set_option linter.unusedVariables false
set_option linter.unusedSimpArgs false
namespace Gp
open Gw Gq
/-! ### a torus is no higher than there are words -/
end Gp
set_option linter.unusedVariables false
set_option linter.unusedSimpArgs false
namespace Gp
open Gw Gq
/-! ### the reference's colours -/
def atS (l : List Int) (n : Int) : Int := if n ∈ l then (l.idxOf n : Int) else -1
theorem at_l0 (l : List Int) (n : Int) (hl : l.length ≤ 1000000) : ∀ (d i k : Nat), i + d = l.length → d < k → ref02_at.l0 k i l n = some (if n ∈ l.drop i then .inl (((i + (l.drop i).idxOf n : Nat)) : Int) else .inr ())
  | 0, i, k, e, hk => by
    obtain ⟨k, rfl⟩ : ∃ m, k = m + 1 := ⟨k - 1, by omega⟩
    rw [ref02_at.l0, if_neg (by simp; omega), List.drop_eq_nil_of_le (by omega)]; rfl
  | d + 1, i, k, e, hk => by
    obtain ⟨k, rfl⟩ : ∃ m, k = m + 1 := ⟨k - 1, by omega⟩
    have hlt : i < l.length := by omega
    have hwi : w64 ((i : Int) + 1) = ((i + 1 : Nat) : Int) := by rw [w64_id (by omega) (by omega)]; rfl
    rw [ref02_at.l0, if_pos (by simpa using hlt), if_pos (by omega), rdD_get hlt, hwi, at_l0 l n hl d (i + 1) k (by omega) (by omega), List.drop_eq_getElem_cons hlt]
    by_cases he : l[i] = n
    · rw [if_pos (by simpa using he), if_pos (by rw [he]; exact List.mem_cons_self ..)]
      rw [he, List.idxOf_cons_self]; rfl
    · rw [if_neg (by simpa using he)]
      have hm : n ∈ l[i] :: l.drop (i + 1) ↔ n ∈ l.drop (i + 1) := by
        rw [List.mem_cons]
        exact ⟨fun h => h.resolve_left (fun e => he e.symm), .inr⟩
      by_cases hd : n ∈ l.drop (i + 1)
      · rw [if_pos hd, if_pos (hm.2 hd), List.idxOf_cons, show (l[i] == n) = false by simpa using he]
        simp only [cond_false]
        congr 2; omega
      · rw [if_neg hd, if_neg (fun h => hd (hm.1 h))]
theorem at_eq (l : List Int) (n : Int) (hl : l.length ≤ 1000000) {k : Nat} (hk : l.length < k) : ref02_at k l n = some (atS l n) := by
  have := at_l0 l n hl l.length 0 k (by omega) hk
  have this : ref02_at.l0 k 0 l n = _ := this
  unfold ref02_at atS
  rw [this, List.drop_zero]
  by_cases h : n ∈ l
  · rw [if_pos h, if_pos h]; simp [sumb]
  · rw [if_neg h, if_neg h]; rfl
def withS (l : List Int) (n : Int) : List Int := if n ∈ l then l else l ++ [n]
theorem with_eq (l : List Int) (n : Int) (hl : l.length ≤ 1000000) {k : Nat} (hk : l.length < k) : ref02_with k l n = some (withS l n) := by
  unfold ref02_with withS
  rw [at_eq l n hl hk, Option.bind_some]
  unfold atS
  by_cases h : n ∈ l
  · rw [if_pos h, if_neg (by simp), if_pos h]; rfl
  · rw [if_neg h, if_pos (by decide), if_pos (by simp; omega), if_neg h]; rfl
theorem withS_len (l : List Int) (n : Int) : (withS l n).length ≤ l.length + 1 := by unfold withS; split <;> simp
theorem mem_withS (l : List Int) (n x : Int) : x ∈ withS l n ↔ x ∈ l ∨ x = n := by
  unfold withS
  split
  · rename_i h; exact ⟨.inl, fun e => e.elim id (fun e => e ▸ h)⟩
  · simp
theorem withS_nodup {l : List Int} (n : Int) (h : l.Nodup) : (withS l n).Nodup := by
  unfold withS
  split
  · exact h
  · rename_i hn
    rw [List.nodup_append]
    exact ⟨h, List.nodup_cons.2 ⟨by simp, List.nodup_nil⟩, fun a ha b hb => by
      rw [List.mem_singleton] at hb; intro e; exact hn (by rw [← hb, ← e]; exact ha)⟩
def colS2 (l : List Int) (t : Tile) : List Int := withS (withS l t.N) t.S
def colsS (s : List Tile) : List Int := s.foldl colS2 []
theorem colours_eq (s : List Tile) (hl : s.length ≤ 2000) {k : Nat} (hk : 10000 < k) : ref02_Colours k s = some (colsS s) := by
  have := loop_list (F := fun k i (l : List Int) => ref02_Colours.l0 k l i s) s colS2 5000 (fun i l => l.length ≤ 2 * i) id (fun k i l h hk hP => by
    have hwi : w64 ((i : Int) + 1) = ((i + 1 : Nat) : Int) := by rw [w64_id (by omega) (by omega)]; rfl
    have h1 := withS_len l s[i].N
    have h2 := withS_len (withS l s[i].N) s[i].S
    constructor
    · show ref02_Colours.l0 (k + 1) l i s = _
      rw [ref02_Colours.l0, if_pos (by simpa using h), if_pos (by omega), rdD_get h, with_eq l _ (by omega) (by omega), Option.bind_some, with_eq _ _ (by omega) (by omega), Option.bind_some, hwi]; rfl
    · unfold colS2; omega) (fun k l _ => by
    show ref02_Colours.l0 (k + 1) l s.length s = _
    rw [ref02_Colours.l0, if_neg (by simp)]; rfl) [] (by simp) k (by omega)
  have this : ref02_Colours.l0 k [] 0 s = _ := this
  unfold ref02_Colours
  rw [this]; rfl
theorem colsS_spec (s : List Tile) : (colsS s).Nodup ∧ (colsS s).length ≤ 2 * s.length ∧ ∀ c, c ∈ colsS s ↔ ∃ t ∈ s, c = t.N ∨ c = t.S := by
  have key : ∀ (r : List Tile) (l : List Int), l.Nodup → (r.foldl colS2 l).Nodup ∧ (r.foldl colS2 l).length ≤ l.length + 2 * r.length ∧ ∀ c, c ∈ r.foldl colS2 l ↔ c ∈ l ∨ ∃ t ∈ r, c = t.N ∨ c = t.S := by
    intro r
    induction r with
    | nil => intro l h; exact ⟨h, by simp, fun c => by simp⟩
    | cons t r ih =>
      intro l h
      obtain ⟨a, b, c⟩ := ih (colS2 l t) (withS_nodup _ (withS_nodup _ h))
      have h1 := withS_len l t.N
      have h2 := withS_len (withS l t.N) t.S
      refine ⟨a, ?_, fun x => ?_⟩
      · rw [List.foldl_cons, List.length_cons]; unfold colS2 at b ⊢; omega
      · rw [List.foldl_cons, c x]
        unfold colS2
        rw [mem_withS, mem_withS]
        simp only [List.mem_cons, exists_eq_or_imp]
        constructor
        · rintro (((h | h) | h) | h)
          · exact .inl h
          · exact .inr (.inl (.inl h))
          · exact .inr (.inl (.inr h))
          · exact .inr (.inr h)
        · rintro (h | (h | h) | h)
          · exact .inl (.inl (.inl h))
          · exact .inl (.inl (.inr h))
          · exact .inl (.inr h)
          · exact .inr h
  obtain ⟨a, b, c⟩ := key s [] List.nodup_nil
  exact ⟨a, by simpa [colsS] using b, fun x => by rw [colsS, c x]; simp⟩
theorem light_some (s : List Tile) (hl : s.length ≤ 1000) {w : Nat} (hw : w ≤ 1000) {k : Nat} (hk : 10000 < k) : ref02_Light k s w = some (decide (min ((colsS s).length ^ w) 1000000 ≤ 1500) && decide (min (s.length ^ w) 1000000 ≤ 40000)) := by
  obtain ⟨_, hc, _⟩ := colsS_spec s
  unfold ref02_Light
  rw [colours_eq s (by omega) hk, Option.bind_some, power_eq (colsS s).length w (by omega) hw (by omega), Option.bind_some]
  have d1 : ∀ a b : Nat, decide (((a : Nat) : Int) ≤ ((b : Nat) : Int)) = decide (a ≤ b) := fun a b => by
    by_cases h : a ≤ b
    · rw [decide_eq_true h, decide_eq_true (by omega)]
    · rw [decide_eq_false h, decide_eq_false (by omega)]
  have e1 := d1 (min ((colsS s).length ^ w) 1000000) 1500
  have e2 := d1 (min (s.length ^ w) 1000000) 40000
  have e1' : decide (((min ((colsS s).length ^ w) 1000000 : Nat) : Int) ≤ 1500) = decide (min ((colsS s).length ^ w) 1000000 ≤ 1500) := e1
  have e2' : decide (((min (s.length ^ w) 1000000 : Nat) : Int) ≤ 40000) = decide (min (s.length ^ w) 1000000 ≤ 40000) := e2
  rw [e1']
  cases h : decide (min ((colsS s).length ^ w) 1000000 ≤ 1500)
  · rfl
  · rw [if_pos rfl, power_eq s.length w (by omega) hw (by omega), Option.bind_some, e2']; rfl
/-! ### squares fall -/
end Gp
set_option linter.unusedVariables false
set_option linter.unusedSimpArgs false
namespace Gp
open Gw Gq
/-! ### the reference's rows -/
def numW (C : List Int) : List Int → Nat
  | [] => 0
  | x :: l => C.idxOf x + C.length * numW C l
theorem numW_push (C : List Int) : ∀ (l : List Int) (x : Int), numW C (l ++ [x]) = numW C l + C.length ^ l.length * C.idxOf x
  | [], x => by simp [numW]
  | y :: l, x => by
    rw [List.cons_append, numW, numW_push C l x, numW, List.length_cons, Nat.pow_succ, Nat.mul_add, Nat.mul_comm (C.length ^ l.length) C.length, Nat.mul_assoc, Nat.add_assoc]
theorem numW_lt (C : List Int) : ∀ (l : List Int), (∀ x ∈ l, x ∈ C) → numW C l < C.length ^ l.length
  | [], _ => by simp [numW]
  | x :: l, h => by
    have h1 : C.idxOf x < C.length := List.idxOf_lt_length_of_mem (h x (List.mem_cons_self ..))
    have h2 := numW_lt C l (fun y hy => h y (List.mem_cons_of_mem _ hy))
    rw [numW, List.length_cons, Nat.pow_succ, Nat.mul_comm (C.length ^ l.length)]
    have : C.length * (numW C l + 1) ≤ C.length * C.length ^ l.length := Nat.mul_le_mul_left _ h2
    rw [Nat.mul_succ] at this
    omega
theorem idxOf_inj {C : List Int} {x y : Int} (hx : x ∈ C) (hy : y ∈ C) (h : C.idxOf x = C.idxOf y) : x = y := by
  have h1 := List.getElem_idxOf (List.idxOf_lt_length_of_mem hx)
  have h2 := List.getElem_idxOf (List.idxOf_lt_length_of_mem hy)
  rw [← h1, ← h2]
  simp only [h]
theorem numW_inj (C : List Int) : ∀ (a b : List Int), a.length = b.length → (∀ x ∈ a, x ∈ C) → (∀ x ∈ b, x ∈ C) → numW C a = numW C b → a = b
  | [], [], _, _, _, _ => rfl
  | [], _ :: _, h, _, _, _ => by cases h
  | _ :: _, [], h, _, _, _ => by cases h
  | x :: a, y :: b, hl, ha, hb, h => by
    have hx := ha x (List.mem_cons_self ..)
    have hy := hb y (List.mem_cons_self ..)
    have h1 : C.idxOf x < C.length := List.idxOf_lt_length_of_mem hx
    have h2 : C.idxOf y < C.length := List.idxOf_lt_length_of_mem hy
    rw [numW, numW] at h
    have m1 : (C.idxOf x + C.length * numW C a) % C.length = C.idxOf x := by rw [Nat.add_mul_mod_self_left, Nat.mod_eq_of_lt h1]
    have m2 : (C.idxOf y + C.length * numW C b) % C.length = C.idxOf y := by rw [Nat.add_mul_mod_self_left, Nat.mod_eq_of_lt h2]
    have e1 : C.idxOf x = C.idxOf y := by rw [← m1, ← m2, h]
    have e2 : numW C a = numW C b := by
      rw [e1] at h
      have : C.length * numW C a = C.length * numW C b := by omega
      exact Nat.eq_of_mul_eq_mul_left (by omega) this
    rw [idxOf_inj hx hy e1, numW_inj C a b (by simpa using hl) (fun z hz => ha z (List.mem_cons_of_mem _ hz)) (fun z hz => hb z (List.mem_cons_of_mem _ hz)) e2]
abbrev RRow := Row_ref02
def mkF (s : List Tile) (C : List Int) (c : List Nat) : RRow := ⟨cz c, (numW C (sideS s c) : Nat), (numW C (sideN s c) : Nat)⟩
theorem foldl_flat {α β : Type} (p : α → Bool) (g : α → List β) : ∀ (xs : List α) (acc : List β), xs.foldl (fun a i => if p i = true then a ++ g i else a) acc = acc ++ (xs.filter p).flatMap g
  | [], acc => by simp
  | x :: r, acc => by
    rw [List.foldl_cons, foldl_flat p g r, List.filter_cons]
    cases p x <;> simp
theorem atS_mem {C : List Int} {x : Int} (h : x ∈ C) : atS C x = (C.idxOf x : Int) := by unfold atS; rw [if_pos h]
theorem follows_last (s : List Tile) (c : List Nat) (i : Nat) (h : 0 < c.length) : follows s c i = ((tat s (c.getD (c.length - 1) 0)).E == (tat s i).W) := by
  unfold follows
  have : c.getLast? = some (c.getD (c.length - 1) 0) := by
    rw [List.getLast?_eq_getElem?, List.getElem?_eq_getElem (by omega), List.getD_eq_getElem?_getD, List.getElem?_eq_getElem (by omega)]; rfl
  rw [this]
theorem extend_eq (s : List Tile) (C : List Int) (w : Nat) (hl : s.length ≤ 1000) (hC : ∀ i, i < s.length → (tat s i).S ∈ C ∧ (tat s i).N ∈ C) (hC2 : C.length ≤ 2000) (hpow : C.length ^ w ≤ 1000000) (hw : w ≤ 60) : ∀ (n : Nat) (c : List Nat) (out : List RRow) (k : Nat), c.length + n = w → (∀ i ∈ c, i < s.length) → out.length + s.length ^ n ≤ 100000000 → 10000 + n + s.length < k →
    ref02_extend k s C (mkF s C c) w ((C.length ^ c.length : Nat) : Int) out = some (out ++ (rowsL s n c).map (mkF s C))
  | 0, c, out, k, e, hc, ho, hk => by
    obtain ⟨k, rfl⟩ : ∃ m, k = m + 1 := ⟨k - 1, by omega⟩
    have : (mkF s C c).Cells.length = c.length := by simp [mkF, cz]
    rw [ref02_extend, this, if_pos (by simp; omega), if_pos (by rw [Nat.pow_zero] at ho; omega), rowsL]; rfl
  | n + 1, c, out, k, e, hc, ho, hk => by
    obtain ⟨K, rfl⟩ : ∃ m, k = m + 1 := ⟨k - 1, by omega⟩
    have hcl : (mkF s C c).Cells.length = c.length := by simp [mkF, cz]
    rw [ref02_extend, hcl, if_neg (by simp; omega)]
    have hby : C.length ^ (c.length + 1) ≤ 1000000 := by
      rcases Nat.eq_zero_or_pos C.length with h0 | h0
      · rw [h0, Nat.pow_succ, Nat.mul_zero]; omega
      · exact Nat.le_trans (Nat.pow_le_pow_right h0 (by omega)) hpow
    have hS : ∀ d : List Nat, (∀ i ∈ d, i < s.length) → (∀ x ∈ sideS s d, x ∈ C) ∧ (∀ x ∈ sideN s d, x ∈ C) := fun d hd => by
      constructor
      · intro x hx; unfold sideS at hx; obtain ⟨i, hi, rfl⟩ := List.mem_map.1 hx; exact (hC i (hd i hi)).1
      · intro x hx; unfold sideN at hx; obtain ⟨i, hi, rfl⟩ := List.mem_map.1 hx; exact (hC i (hd i hi)).2
    have hlenS : ∀ d : List Nat, (sideS s d).length = d.length ∧ (sideN s d).length = d.length := fun d => by simp [sideS, sideN]
    -- one turn of the loop
    have hst : ∀ (i : Nat), i < s.length → ∀ (k' : Nat) (l : List RRow), 5000 < k' → l.length + s.length ^ n ≤ 100000000 → ref02_extend.l0 (k' + 1) l i s C (mkF s C c) w ((C.length ^ c.length : Nat) : Int) (ref02_extend K) = ref02_extend.l0 k' (if follows s c i = true then l ++ (rowsL s n (c ++ [i])).map (mkF s C) else l) ((i + 1 : Nat) : Int) s C (mkF s C c) w ((C.length ^ c.length : Nat) : Int) (ref02_extend K) := fun i hi k' l hk' hll => by
      have hwi : w64 ((i : Int) + 1) = ((i + 1 : Nat) : Int) := by rw [w64_id (by omega) (by omega)]; rfl
      have et : rdD s (i : Int) z_Tile = tat s i := rdD_nat s i z_Tile
      have hcond : (if (decide ((((mkF s C c).Cells.length : Nat) : Int) > 0)) = true then (if 0 ≤ w64 ((((mkF s C c).Cells.length : Nat) : Int) - 1) ∧ w64 ((((mkF s C c).Cells.length : Nat) : Int) - 1) < (((mkF s C c).Cells.length : Nat) : Int) then (if 0 ≤ (rdD (mkF s C c).Cells (w64 ((((mkF s C c).Cells.length : Nat) : Int) - 1)) 0) ∧ (rdD (mkF s C c).Cells (w64 ((((mkF s C c).Cells.length : Nat) : Int) - 1)) 0) < (s.length : Int) then (some (((rdD s (rdD (mkF s C c).Cells (w64 ((((mkF s C c).Cells.length : Nat) : Int) - 1)) 0) z_Tile).E) != ((rdD s (i : Int) z_Tile).W))) else none) else none) else (some false)) = some (!follows s c i) := by
        rw [hcl]
        rcases Nat.eq_zero_or_pos c.length with h0 | h0
        · rw [if_neg (by simp; exact List.eq_nil_of_length_eq_zero h0), List.eq_nil_of_length_eq_zero h0]; rfl
        · have hw1 : w64 ((c.length : Int) - 1) = ((c.length - 1 : Nat) : Int) := by rw [w64_id (by omega) (by omega)]; omega
          have hrd : rdD (mkF s C c).Cells ((c.length - 1 : Nat) : Int) 0 = ((c.getD (c.length - 1) 0 : Nat) : Int) := by
            rw [rdD_nat]
            show (cz c).getD _ _ = _
            simp [cz, List.getElem?_eq_getElem (show c.length - 1 < c.length by omega)]
          have hlast : c.getD (c.length - 1) 0 < s.length := by
            rw [List.getD_eq_getElem?_getD, List.getElem?_eq_getElem (show c.length - 1 < c.length by omega), Option.getD_some]
            exact hc _ (List.getElem_mem _)
          rw [if_pos (by simp; omega), hw1, if_pos (by omega), hrd, if_pos (by omega), follows_last s c i h0, et, rdD_nat]; rfl
      rw [ref02_extend.l0, if_pos (by simp; omega), if_pos (by omega), hcond, Option.bind_some, hwi]
      cases hf : follows s c i
      · rfl
      · rw [if_neg (by simp)]
        have hci : ∀ j ∈ c ++ [i], j < s.length := fun j hj => by
          rcases List.mem_append.1 hj with h | h
          · exact hc j h
          · rw [List.mem_singleton] at h; rw [h]; exact hi
        have ec : (([] : List Int) ++ (mkF s C c).Cells) ++ [(i : Int)] = cz (c ++ [i]) := by simp [mkF, cz]
        have l1 : ([] : List Int).length + (mkF s C c).Cells.length ≤ 100000000000 := by rw [hcl]; simp; omega
        have l2 : (([] : List Int) ++ (mkF s C c).Cells).length + [(i : Int)].length ≤ 100000000000 := by rw [List.nil_append, hcl]; simp; omega
        have i1 : C.idxOf (tat s i).S < C.length := List.idxOf_lt_length_of_mem (hC i hi).1
        have i2 : C.idxOf (tat s i).N < C.length := List.idxOf_lt_length_of_mem (hC i hi).2
        have b0 : C.length ^ c.length * C.length ≤ 1000000 := by rw [← Nat.pow_succ]; exact hby
        have n1 := numW_lt C _ (hS (c ++ [i]) hci).1
        have n2 := numW_lt C _ (hS (c ++ [i]) hci).2
        rw [(hlenS _).1, List.length_append, List.length_singleton] at n1
        rw [(hlenS _).2, List.length_append, List.length_singleton] at n2
        have pS : numW C (sideS s (c ++ [i])) = numW C (sideS s c) + C.length ^ c.length * C.idxOf (tat s i).S := by
          rw [show sideS s (c ++ [i]) = sideS s c ++ [(tat s i).S] by simp [sideS], numW_push, (hlenS c).1]
        have pN : numW C (sideN s (c ++ [i])) = numW C (sideN s c) + C.length ^ c.length * C.idxOf (tat s i).N := by
          rw [show sideN s (c ++ [i]) = sideN s c ++ [(tat s i).N] by simp [sideN], numW_push, (hlenS c).2]
        have w1 : w64 ((mkF s C c).South + w64 (((C.length ^ c.length : Nat) : Int) * ((C.idxOf (tat s i).S : Nat) : Int))) = ((numW C (sideS s (c ++ [i])) : Nat) : Int) := by
          show w64 (((numW C (sideS s c) : Nat) : Int) + _) = _
          rw [← Int.natCast_mul]
          generalize C.length ^ c.length * C.idxOf (tat s i).S = M at pS
          rw [w64_id (n := (M : Int)) (by omega) (by omega), w64_id (by omega) (by omega)]; omega
        have w2 : w64 ((mkF s C c).North + w64 (((C.length ^ c.length : Nat) : Int) * ((C.idxOf (tat s i).N : Nat) : Int))) = ((numW C (sideN s (c ++ [i])) : Nat) : Int) := by
          show w64 (((numW C (sideN s c) : Nat) : Int) + _) = _
          rw [← Int.natCast_mul]
          generalize C.length ^ c.length * C.idxOf (tat s i).N = M at pN
          rw [w64_id (n := (M : Int)) (by omega) (by omega), w64_id (by omega) (by omega)]; omega
        have w3 : w64 (((C.length ^ c.length : Nat) : Int) * (C.length : Int)) = ((C.length ^ (c ++ [i]).length : Nat) : Int) := by
          rw [← Int.natCast_mul, List.length_append, List.length_singleton, Nat.pow_succ]
          generalize C.length ^ c.length * C.length = M at b0
          rw [w64_id (by omega) (by omega)]
        rw [if_pos l1, if_pos l2, et, at_eq C _ (by omega) (by omega), Option.bind_some, at_eq C _ (by omega) (by omega), Option.bind_some, Option.bind_some, atS_mem (hC i hi).1, atS_mem (hC i hi).2]
        simp only
        rw [ec, w1, w2, w3, show (Row_ref02.mk (cz (c ++ [i])) ((numW C (sideS s (c ++ [i])) : Nat) : Int) ((numW C (sideN s (c ++ [i])) : Nat) : Int)) = mkF s C (c ++ [i]) from rfl]
        rw [extend_eq s C w hl hC hC2 hpow hw n (c ++ [i]) l K (by simp; omega) hci hll (by omega), Option.bind_some, Option.bind_some, if_pos trivial]
    have hrl : ∀ c : List Nat, (rowsL s n c).length ≤ s.length ^ n := fun c => rowsL_len s n c
    have := loop_list (F := fun k' i (l : List RRow) => ref02_extend.l0 k' l i s C (mkF s C c) w ((C.length ^ c.length : Nat) : Int) (ref02_extend K)) (List.range s.length) (fun l i => if follows s c i = true then l ++ (rowsL s n (c ++ [i])).map (mkF s C) else l) 5001 (fun i l => l.length ≤ out.length + i * s.length ^ n) id (fun k' i l h hk' hP => by
      have hi : i < s.length := by simpa using h
      have hm : i * s.length ^ n + s.length ^ n ≤ s.length ^ (n + 1) := by
        rw [← Nat.succ_mul, Nat.pow_succ, Nat.mul_comm]
        exact Nat.mul_le_mul_left _ hi
      constructor
      · show ref02_extend.l0 (k' + 1) l i s C (mkF s C c) w _ (ref02_extend K) = _
        rw [hst i hi k' l (by omega) (by omega), List.getElem_range]
      · rw [List.getElem_range, Nat.succ_mul]
        have := hrl (c ++ [i])
        split
        · rw [List.length_append, List.length_map]; omega
        · omega) (fun k' l _ => by
      show ref02_extend.l0 (k' + 1) l ((List.range s.length).length : Nat) s C (mkF s C c) w _ (ref02_extend K) = _
      rw [ref02_extend.l0, if_neg (by simp)]; rfl) out (by omega) K (by simp; omega)
    have this : ref02_extend.l0 K out 0 s C (mkF s C c) w ((C.length ^ c.length : Nat) : Int) (ref02_extend K) = _ := this
    rw [this, id, Option.bind_some, foldl_flat (fun i => follows s c i), rowsL, List.map_flatMap]
theorem rows_ref (s : List Tile) (w : Nat) (hl : s.length ≤ 1000) (hpow : (colsS s).length ^ w ≤ 1000000) (hrow : s.length ^ w ≤ 1000000) (hw : w ≤ 60) {k : Nat} (hk : 20000 < k) : ref02_Rows k s w = some ((rowsL s w []).map (mkF s (colsS s))) := by
  obtain ⟨_, h2, h3⟩ := colsS_spec s
  have hC : ∀ i, i < s.length → (tat s i).S ∈ colsS s ∧ (tat s i).N ∈ colsS s := fun i hi => by
    have : tat s i ∈ s := by unfold tat; rw [List.getD_eq_getElem?_getD, List.getElem?_eq_getElem hi]; exact List.getElem_mem _
    exact ⟨(h3 _).2 ⟨_, this, .inr rfl⟩, (h3 _).2 ⟨_, this, .inl rfl⟩⟩
  have := extend_eq s (colsS s) w hl hC (by omega) hpow hw w [] [] k (by simp) (by simp) (by simpa using (by omega : s.length ^ w ≤ 100000000)) (by omega)
  unfold ref02_Rows
  rw [colours_eq s (by omega) (by omega), Option.bind_some]
  have e : (Row_ref02.mk ([] : List Int) 0 0) = mkF s (colsS s) [] := rfl
  rw [e]
  have e2 : (((colsS s).length ^ ([] : List Nat).length : Nat) : Int) = 1 := by simp
  rw [e2] at this
  rw [this]; simp
end Gp
set_option linter.unusedVariables false
set_option linter.unusedSimpArgs false
namespace Gp
open Gw Gq
/-! ### the reference's tori -/
def bitsN (M : Nat) (P : Nat → Bool) : List Bool := (List.range M).map P
theorem bitsN_len (M : Nat) (P : Nat → Bool) : (bitsN M P).length = M := by simp [bitsN]
theorem bitsN_get (M : Nat) (P : Nat → Bool) {x : Nat} (h : x < M) (d : Bool) : (bitsN M P).getD x d = P x := by simp [bitsN, List.getElem?_map, List.getElem?_range h]
theorem bitsN_false (M : Nat) : List.replicate M false = bitsN M (fun _ => false) := by
  apply List.ext_getElem
  · simp [bitsN]
  · intro i a b; simp [bitsN]
theorem bitsN_set (M : Nat) (P : Nat → Bool) (x : Nat) : (bitsN M P).set x true = bitsN M (fun y => P y || x == y) := by
  apply List.ext_getElem
  · simp [bitsN]
  · intro i a b
    simp only [bitsN, List.getElem_set, List.getElem_map, List.getElem_range]
    by_cases h : x = i
    · simp [h]
    · simp [h]
theorem rd_set_same {T : List (List Bool)} {y : Nat} (h : y < T.length) (B : List Bool) : rdD (T.set y B) (y : Int) [] = B := by
  rw [rdD_nat, List.getD_eq_getElem?_getD, List.getElem?_set_self h]; rfl
theorem rd_set_ne {T : List (List Bool)} {y z : Nat} (h : y ≠ z) (B : List Bool) : rdD (T.set y B) (z : Int) [] = rdD T (z : Int) [] := by
  rw [rdD_nat, rdD_nat, List.getD_eq_getElem?_getD, List.getElem?_set_ne h, List.getD_eq_getElem?_getD]
end Gp
set_option linter.unusedVariables false
set_option linter.unusedSimpArgs false
namespace Gp
open Gw Gq
/-! program and reference -/
structure SetC (s : List Tile) (C : List Int) (w : Nat) (B : List (List Nat)) : Prop where
  w8 : w ≤ 8
  col : ∀ i, i < s.length → (tat s i).S ∈ C ∧ (tat s i).N ∈ C
  row : ∀ c ∈ B, RowOK s w c
theorem SetC.mem {s : List Tile} {C : List Int} {w : Nat} {B : List (List Nat)} (h : SetC s C w B) {c : List Nat} (hc : c ∈ B) : (sideS s c).length = w ∧ (sideN s c).length = w ∧ (∀ y ∈ sideS s c, y ∈ C) ∧ (∀ y ∈ sideN s c, y ∈ C) := by
  have hr := h.row c hc
  have hcl : ∀ i ∈ c, i < s.length := fun i hi => by
    obtain ⟨j, hj, rfl⟩ := List.getElem_of_mem hi
    have := hr.lt j (by rw [← hr.len]; exact hj)
    rwa [List.getD_eq_getElem?_getD, List.getElem?_eq_getElem hj, Option.getD_some] at this
  exact ⟨by simp [sideS, hr.len], by simp [sideN, hr.len], fun y hy => by unfold sideS at hy; obtain ⟨i, hi, rfl⟩ := List.mem_map.1 hy; exact (h.col i (hcl i hi)).1, fun y hy => by unfold sideN at hy; obtain ⟨i, hi, rfl⟩ := List.mem_map.1 hy; exact (h.col i (hcl i hi)).2⟩
end Gp
set_option linter.unusedVariables false
set_option linter.unusedSimpArgs false
namespace Gp
open Gw Gq
theorem colsS_col (s : List Tile) : ∀ i, i < s.length → (tat s i).S ∈ colsS s ∧ (tat s i).N ∈ colsS s := fun i hi => by
  obtain ⟨_, _, h3⟩ := colsS_spec s
  have : tat s i ∈ s := by unfold tat; rw [List.getD_eq_getElem?_getD, List.getElem?_eq_getElem hi]; exact List.getElem_mem _
  exact ⟨(h3 _).2 ⟨_, this, .inr rfl⟩, (h3 _).2 ⟨_, this, .inl rfl⟩⟩
/-! ### the reference's least torus -/
end Gp
set_option linter.unusedVariables false
set_option linter.unusedSimpArgs false
namespace Gp
open Gw Gq
/-! ### the reference's first filling -/
theorem has_eq (l : List Int) (i : Nat) (c : Int) (h : l.length = 0 ∨ i < l.length) : ref02_has l (i : Int) c = some (atB l i c) := by
  unfold ref02_has atB
  by_cases h0 : l.length = 0
  · rw [if_pos (by simp [h0])]; simp [h0]
  · rw [if_neg (by simp; simpa using h0), if_pos (by omega), rdD_nat]; simp [h0]
theorem fits_ref {s : List Tile} (C : List Int) {w h : Nat} {e : Edges} (he : EdgeOK e w h) (hw : 1 ≤ w ∧ w ≤ 8) (hh : h ≤ 1000) {c : List Nat} (hc : RowOK s w c) {y : Nat} (hy : y < h) {k : Nat} (hk : w < k) : ref02_fits k s (mkF s C c) y h e = some (alB e w h (mkR s c) y) := by
  have hcl : (mkF s C c).Cells.length = w := by show (cz c).length = w; simp [cz, hc.len]
  have g : ∀ j : Nat, j < w → rdD (mkF s C c).Cells (j : Int) 0 = ((c.getD j 0 : Nat) : Int) := fun j hj => by
    rw [rdD_nat]
    show (cz c).getD j 0 = _
    simp [cz, List.getElem?_eq_getElem (show j < c.length by rw [hc.len]; exact hj)]
  have g0 : rdD (mkF s C c).Cells (0 : Int) 0 = ((c.getD 0 0 : Nat) : Int) := g 0 (by omega)
  have hwm : w64 (((mkF s C c).Cells.length : Int) - 1) = ((w - 1 : Nat) : Int) := by rw [hcl, w64_id (by omega) (by omega)]; omega
  have hhm : w64 ((h : Int) - 1) = ((h - 1 : Nat) : Int) := by rw [w64_id (by omega) (by omega)]; omega
  have lt0 := hc.lt 0 (by omega)
  have ltl := hc.lt (w - 1) (by omega)
  have eW : (mkR s c).West = (tat s (c.getD 0 0)).W := by
    show (tat s (c.headD 0)).W = _
    congr 2
    cases c <;> simp
  have eE : (mkR s c).East = (tat s (c.getD (w - 1) 0)).E := by
    show (tat s (c.getLastD 0)).E = _
    congr 2
    rw [List.getLastD_eq_getLast?, List.getLast?_eq_getElem?, hc.len, List.getD_eq_getElem?_getD]
  have hl := loop_all (F := fun k x (_ : Unit) => ref02_fits.l0 k x s (mkF s C c) y h e) (S := fun _ => ()) (b := colE e h (mkR s c) y) (n := w) (K := 0) (r := false) (e := ()) (fun k x _ hx => by
    show ref02_fits.l0 (k + 1) x s (mkF s C c) y h e = if colE e h (mkR s c) y x = true then ref02_fits.l0 k ((x + 1 : Nat) : Int) s (mkF s C c) y h e else _
    have hwx : w64 ((x : Int) + 1) = ((x + 1 : Nat) : Int) := by rw [w64_id (by omega) (by omega)]; rfl
    have ltx := hc.lt x hx
    have sS : (mkR s c).South.get x = (tat s (c.getD x 0)).S := by
      show (wordOf (c.map fun i => (tat s i).S)).get x = _
      rw [wordOf_get _ x (by omega)]
      simp [List.getElem?_eq_getElem (show x < c.length by rw [hc.len]; exact hx)]
    have sN : (mkR s c).North.get x = (tat s (c.getD x 0)).N := by
      show (wordOf (c.map fun i => (tat s i).N)).get x = _
      rw [wordOf_get _ x (by omega)]
      simp [List.getElem?_eq_getElem (show x < c.length by rw [hc.len]; exact hx)]
    have hS := has_eq e.South x (tat s (c.getD x 0)).S (he.s.imp id (fun h => by omega))
    have hN := has_eq e.North x (tat s (c.getD x 0)).N (he.n.imp id (fun h => by omega))
    have et : rdD s ((c.getD x 0 : Nat) : Int) z_Tile = tat s (c.getD x 0) := rdD_nat _ _ _
    unfold colE
    rw [sS, sN, ref02_fits.l0, if_pos (by rw [hcl]; simp; omega), if_pos (by rw [hcl]; omega), g x hx, if_pos (by omega), et, hwx, hhm]
    by_cases h0 : y = 0
    · have b0 : ((y : Int) == 0) = true := by simp [h0]
      rw [b0, if_pos rfl, hS, Option.bind_some, Option.bind_some, decide_eq_true h0]
      cases ha : atB e.South x (tat s (c.getD x 0)).S
      · rfl
      · rw [if_neg (by decide)]
        by_cases h1 : y + 1 = h
        · have b1 : ((y : Int) == ((h - 1 : Nat) : Int)) = true := by rw [beq_iff_eq]; omega
          rw [b1, if_pos rfl, hN, Option.bind_some, Option.bind_some, Option.bind_some, decide_eq_true h1]
          cases hb : atB e.North x (tat s (c.getD x 0)).N <;> rfl
        · have b1 : ((y : Int) == ((h - 1 : Nat) : Int)) = false := by rw [beq_eq_false_iff_ne]; omega
          rw [b1, decide_eq_false h1]; rfl
    · have b0 : ((y : Int) == 0) = false := by rw [beq_eq_false_iff_ne]; omega
      rw [b0, if_neg (by decide), Option.bind_some, if_neg (by decide), decide_eq_false h0]
      by_cases h1 : y + 1 = h
      · have b1 : ((y : Int) == ((h - 1 : Nat) : Int)) = true := by rw [beq_iff_eq]; omega
        rw [b1, if_pos rfl, hN, Option.bind_some, Option.bind_some, Option.bind_some, decide_eq_true h1]
        cases hb : atB e.North x (tat s (c.getD x 0)).N <;> rfl
      · have b1 : ((y : Int) == ((h - 1 : Nat) : Int)) = false := by rw [beq_eq_false_iff_ne]; omega
        rw [b1, decide_eq_false h1]; rfl) (fun k => by
    show ref02_fits.l0 (k + 1) w s (mkF s C c) y h e = _
    rw [ref02_fits.l0, if_neg (by rw [hcl]; simp)]) k (by omega)
  have hl : ref02_fits.l0 k 0 s (mkF s C c) y h e = some (if (List.range w).all (colE e h (mkR s c) y) = true then .inr () else .inl false) := hl
  have hW := has_eq e.West y (tat s (c.getD 0 0)).W (he.we.imp id (fun h => by omega))
  have hE := has_eq e.East y (tat s (c.getD (w - 1) 0)).E (he.ea.imp id (fun h => by omega))
  have et0 : rdD s ((c.getD 0 0 : Nat) : Int) z_Tile = tat s (c.getD 0 0) := rdD_nat _ _ _
  have etl : rdD s ((c.getD (w - 1) 0 : Nat) : Int) z_Tile = tat s (c.getD (w - 1) 0) := rdD_nat _ _ _
  unfold ref02_fits alB
  rw [eW, eE, if_pos (by rw [hcl]; omega), g0, if_pos (by omega), et0, hW, Option.bind_some, hwm]
  cases ha : atB e.West y (tat s (c.getD 0 0)).W
  · rfl
  · rw [if_neg (by decide), if_pos (by rw [hcl]; omega), g (w - 1) (by omega), if_pos (by omega), etl, hE, Option.bind_some, Option.bind_some]
    cases hb : atB e.East y (tat s (c.getD (w - 1) 0)).E
    · rfl
    · rw [if_neg (by decide), hl, Option.bind_some]
      cases (List.range w).all (colE e h (mkR s c) y) <;> rfl
end Gp
set_option linter.unusedVariables false
set_option linter.unusedSimpArgs false
namespace Gp
open Gw Gq
structure JobC (s : List Tile) (C : List Int) (w h : Nat) (e : Edges) (B : List (List Nat)) : Prop where
  set : SetC s C w B
  w1 : 1 ≤ w
  hh : 1 ≤ h ∧ h ≤ 60
  e : EdgeOK e w h
  M : C.length ^ w ≤ 1000000
  len : B.length ≤ 1000000
def fitC (s : List Tile) (w h : Nat) (e : Edges) (c : List Nat) (y : Nat) : Bool := alB e w h (mkR s c) y
def mayN (s : List Tile) (C : List Int) (w h : Nat) (e : Edges) (B : List (List Nat)) : Nat → Nat → Bool
  | 0, _ => true
  | n + 1, x => B.any fun c => numW C (sideS s c) == x && (mayN s C w h e B n (numW C (sideN s c)) && fitC s w h e c (h - 1 - n))
theorem JobC.num {s : List Tile} {C : List Int} {w h : Nat} {e : Edges} {B : List (List Nat)} (j : JobC s C w h e B) {c : List Nat} (hc : c ∈ B) : numW C (sideS s c) < C.length ^ w ∧ numW C (sideN s c) < C.length ^ w := by
  obtain ⟨lS, lN, mS, mN⟩ := j.set.mem hc
  have n1 := numW_lt C _ mS
  have n2 := numW_lt C _ mN
  rw [lS] at n1
  rw [lN] at n2
  exact ⟨n1, n2⟩
theorem getR {s : List Tile} {C : List Int} {B : List (List Nat)} {i : Nat} (hi : i < B.length) : rdD (B.map (mkF s C)) (i : Int) z_Row_ref02 = mkF s C B[i] := by
  rw [rdD_get (show i < (B.map (mkF s C)).length by rw [List.length_map]; exact hi), List.getElem_map]
theorem refF_l0 (M : Nat) (hM : M ≤ 1000000) (T : List (List Bool)) (y : Nat) (hy : y < T.length) (hT : T.length ≤ 1000) : ∀ (d i k : Nat) , i + d = M → d < k → ref02_First.l0 k (T.set y (bitsN M fun x => decide (x < i))) i y M = some (T.set y (bitsN M fun _ => true))
  | 0, i, k, e, hk => by
    obtain ⟨k, rfl⟩ : ∃ m, k = m + 1 := ⟨k - 1, by omega⟩
    rw [ref02_First.l0, if_neg (by simp; omega)]
    congr 2
    unfold bitsN
    apply List.map_congr_left
    intro x hx
    have := List.mem_range.1 hx
    exact decide_eq_true (by omega)
  | d + 1, i, k, e, hk => by
    obtain ⟨k, rfl⟩ : ∃ m, k = m + 1 := ⟨k - 1, by omega⟩
    have hwi : w64 ((i : Int) + 1) = ((i + 1 : Nat) : Int) := by rw [w64_id (by omega) (by omega)]; rfl
    have ih := refF_l0 M hM T y hy hT d (i + 1) k (by omega) (by omega)
    rw [ref02_First.l0, if_pos (by simp; omega), if_pos (by rw [List.length_set]; omega), rd_set_same hy, if_pos (by rw [bitsN_len]; omega), hwi, Int.toNat_natCast, Int.toNat_natCast, bitsN_set, List.set_set]
    have e0 : (fun x => decide (x < i) || i == x) = fun x => decide (x < i + 1) := by
      funext x
      rw [Bool.eq_iff_iff, Bool.or_eq_true, decide_eq_true_eq, beq_iff_eq, decide_eq_true_eq]
      omega
    rw [e0]; exact ih
theorem refF_l2 {s : List Tile} {C : List Int} {w h : Nat} {e : Edges} {B : List (List Nat)} (j : JobC s C w h e B) (T : List (List Bool)) (y : Nat) (hy : y < h) (hT : T.length = h + 1) (U : Nat → Bool) (hU : rdD T ((y + 1 : Nat) : Int) [] = bitsN (C.length ^ w) U) {k : Nat} (hk : B.length + w + 1 < k) :
    ref02_First.l2 k (T.set y (List.replicate (C.length ^ w) false)) 0 s h e (B.map (mkF s C)) y = some (T.set y (bitsN (C.length ^ w) fun x => B.any fun c => numW C (sideS s c) == x && (U (numW C (sideN s c)) && fitC s w h e c y))) := by
  have hwy : w64 ((y : Int) + 1) = ((y + 1 : Nat) : Int) := by rw [w64_id (by omega) (by have := j.hh; omega)]; rfl
  obtain ⟨M, hMd⟩ : ∃ M, C.length ^ w = M := ⟨_, rfl⟩
  have hM := j.M
  rw [hMd] at hU hM ⊢
  have hh := j.hh
  have hlen := j.len
  have := loop_list (F := fun k i (P : Nat → Bool) => ref02_First.l2 k (T.set y (bitsN M P)) i s h e (B.map (mkF s C)) y) B (fun P c => fun x => P x || (numW C (sideS s c) == x && (U (numW C (sideN s c)) && fitC s w h e c y))) (w + 1) (fun _ _ => True) (fun P => T.set y (bitsN M P)) (fun k i P hi hk _ => by
    refine ⟨?_, trivial⟩
    have hwi : w64 ((i : Int) + 1) = ((i + 1 : Nat) : Int) := by rw [w64_id (by omega) (by omega)]; rfl
    have hc := List.getElem_mem hi
    obtain ⟨n1, n2⟩ := j.num hc
    rw [hMd] at n1 n2
    have eU : rdD (T.set y (bitsN M P)) ((y + 1 : Nat) : Int) [] = bitsN M U := by rw [rd_set_ne (by omega), hU]
    have eP : rdD (T.set y (bitsN M P)) (y : Int) [] = bitsN M P := rd_set_same (by omega) _
    have hil : (0 : Int) ≤ i ∧ (i : Int) < ((B.map (mkF s C)).length : Int) := by rw [List.length_map]; omega
    have hTl : ((T.set y (bitsN M P)).length : Int) = h + 1 := by rw [List.length_set, hT]; simp
    have hN : (mkF s C B[i]).North = ((numW C (sideN s B[i]) : Nat) : Int) := rfl
    have hS : (mkF s C B[i]).South = ((numW C (sideS s B[i]) : Nat) : Int) := rfl
    have hf := fits_ref C j.e ⟨j.w1, j.set.w8⟩ (by omega) (j.set.row _ hc) hy (k := k) (by omega)
    show ref02_First.l2 (k + 1) (T.set y (bitsN M P)) i s h e (B.map (mkF s C)) y = _
    have c1 : (0 : Int) ≤ ((y + 1 : Nat) : Int) ∧ ((y + 1 : Nat) : Int) < ((T.set y (bitsN M P)).length : Int) := by omega
    have c3 : (0 : Int) ≤ ((numW C (sideN s B[i]) : Nat) : Int) ∧ ((numW C (sideN s B[i]) : Nat) : Int) < ((bitsN M U).length : Int) := by rw [bitsN_len]; omega
    rw [ref02_First.l2, if_pos (by simp; omega), hwy, getR hi, eU, hN, rdD_nat, bitsN_get M U n2, hwi]
    obtain ⟨u, hu⟩ : ∃ u, U (numW C (sideN s B[i])) = u := ⟨_, rfl⟩
    rw [hu]
    cases u
    · rw [if_neg (show ¬ (false = true) by decide), if_pos c1, if_pos hil, if_pos c3, Option.bind_some, if_neg (show ¬ (false = true) by decide), Option.bind_some]
      have e0 : (fun x => P x || (numW C (sideS s B[i]) == x && (false && fitC s w h e B[i] y))) = P := by
        funext z; simp
      rw [e0]
    · rw [if_pos (show true = true from rfl), if_pos c1, if_pos hil, if_pos c3, hf, Option.bind_some, Option.bind_some]
      show Option.bind (if fitC s w h e B[i] y = true then _ else _) _ = _
      cases hfc : fitC s w h e B[i] y
      · rw [if_neg (by decide), Option.bind_some]
        have e0 : (fun x => P x || (numW C (sideS s B[i]) == x && (true && false))) = P := by
          funext z; simp
        rw [e0]
      · rw [if_pos rfl, if_pos (by omega), if_pos hil, eP, hS, if_pos (by rw [bitsN_len]; omega), Option.bind_some, Int.toNat_natCast, Int.toNat_natCast, bitsN_set, List.set_set]
        have e0 : (fun x => P x || (numW C (sideS s B[i]) == x && (true && true))) = fun x => P x || numW C (sideS s B[i]) == x := by
          funext z; simp
        rw [e0]) (fun k P _ => by
    show ref02_First.l2 (k + 1) (T.set y (bitsN M P)) B.length s h e (B.map (mkF s C)) y = _
    rw [ref02_First.l2, if_neg (by simp)]) (fun _ => false) trivial k (by omega)
  have this : ref02_First.l2 k (T.set y (bitsN M fun _ => false)) 0 s h e (B.map (mkF s C)) y = _ := this
  rw [bitsN_false, this]
  congr 2
  have key : ∀ (L : List (List Nat)) (P : Nat → Bool), L.foldl (fun P c => fun x => P x || (numW C (sideS s c) == x && (U (numW C (sideN s c)) && fitC s w h e c y))) P = fun x => P x || L.any fun c => numW C (sideS s c) == x && (U (numW C (sideN s c)) && fitC s w h e c y) := by
    intro L
    induction L with
    | nil => intro P; simp
    | cons a L ih => intro P; rw [List.foldl_cons, ih]; funext x; simp [Bool.or_assoc]
  rw [key]
  simp
structure MayOK (s : List Tile) (C : List Int) (w h : Nat) (e : Edges) (B : List (List Nat)) (y : Nat) (T : List (List Bool)) : Prop where
  len : T.length = h + 1
  at_ : ∀ z, y ≤ z → z ≤ h → rdD T (z : Int) [] = bitsN (C.length ^ w) (mayN s C w h e B (h - z))
theorem refF_l1 {s : List Tile} {C : List Int} {w h : Nat} {e : Edges} {B : List (List Nat)} (j : JobC s C w h e B) : ∀ (n : Nat) (T : List (List Bool)) (k : Nat), n ≤ h → MayOK s C w h e B n T → B.length + w + n + 5 < k → ∃ T', ref02_First.l1 k T ((n : Int) - 1) s h e (B.map (mkF s C)) ((C.length ^ w : Nat) : Int) = some T' ∧ MayOK s C w h e B 0 T'
  | 0, T, k, hn, hT, hk => by
    obtain ⟨k, rfl⟩ : ∃ m, k = m + 1 := ⟨k - 1, by omega⟩
    exact ⟨T, by rw [ref02_First.l1, if_neg (by simp)], hT⟩
  | n + 1, T, k, hn, hT, hk => by
    obtain ⟨k, rfl⟩ : ∃ m, k = m + 1 := ⟨k - 1, by omega⟩
    have hlen := hT.len
    have hh := j.hh
    have hM := j.M
    have e1 : ((n + 1 : Nat) : Int) - 1 = (n : Int) := by omega
    have hwn : w64 ((n : Int) - 1) = (n : Int) - 1 := w64_id (by omega) (by omega)
    have hU := hT.at_ (n + 1) (Nat.le_refl _) hn
    rw [e1, ref02_First.l1, if_pos (by simp), if_pos (by omega), if_pos (by omega), Int.toNat_natCast, Int.toNat_natCast, refF_l2 j T n (by omega) hlen _ hU (by omega), Option.bind_some, hwn]
    refine refF_l1 j n _ k (by omega) ⟨by rw [List.length_set]; exact hlen, fun z z1 z2 => ?_⟩ (by omega)
    by_cases hz : z = n
    · subst hz
      rw [rd_set_same (by omega)]
      congr 1
      rw [show h - z = (h - (z + 1)) + 1 by omega]
      funext x
      rw [mayN, show h - 1 - (h - (z + 1)) = z by omega]
    · rw [rd_set_ne (by omega)]; exact hT.at_ z (by omega) z2
def takeC (s : List Tile) (C : List Int) (w h : Nat) (e : Edges) (B : List (List Nat)) (y : Nat) (below : Int) (c : List Nat) : Bool := (decide (y = 0) || decide (((numW C (sideS s c) : Nat) : Int) = below)) && (mayN s C w h e B (h - (y + 1)) (numW C (sideN s c)) && fitC s w h e c y)
theorem refF_l4 {s : List Tile} {C : List Int} {w h : Nat} {e : Edges} {B : List (List Nat)} (j : JobC s C w h e B) {T : List (List Bool)} (hT : MayOK s C w h e B 0 T) (cells : List Int) (hc : cells.length ≤ 1000000) (below : Int) {y : Nat} (hy : y < h) : ∀ (d i k : Nat), i + d = B.length → d + w + 1 < k →
    ref02_First.l4 k cells below false i s h e (B.map (mkF s C)) T y = some (match (B.drop i).find? (takeC s C w h e B y below) with
      | some c => (cells ++ cz c, ((numW C (sideN s c) : Nat) : Int), true)
      | none => (cells, below, false))
  | 0, i, k, e', hk => by
    obtain ⟨k, rfl⟩ : ∃ m, k = m + 1 := ⟨k - 1, by omega⟩
    rw [ref02_First.l4, if_neg (by simp; omega), List.drop_eq_nil_of_le (by omega)]; rfl
  | d + 1, i, k, e', hk => by
    obtain ⟨k, rfl⟩ : ∃ m, k = m + 1 := ⟨k - 1, by omega⟩
    have hi : i < B.length := by omega
    have hlen := hT.len
    have hh := j.hh
    have hl6 := j.len
    have hwi : w64 ((i : Int) + 1) = ((i + 1 : Nat) : Int) := by rw [w64_id (by omega) (by omega)]; rfl
    have hwy : w64 ((y : Int) + 1) = ((y + 1 : Nat) : Int) := by rw [w64_id (by omega) (by omega)]; rfl
    have hm := List.getElem_mem hi
    obtain ⟨n1, n2⟩ := j.num hm
    have hU := hT.at_ (y + 1) (by omega) (by omega)
    have hil : (0 : Int) ≤ i ∧ (i : Int) < ((B.map (mkF s C)).length : Int) := by rw [List.length_map]; omega
    have hN : (mkF s C B[i]).North = ((numW C (sideN s B[i]) : Nat) : Int) := rfl
    have hS : (mkF s C B[i]).South = ((numW C (sideS s B[i]) : Nat) : Int) := rfl
    have hCe : (mkF s C B[i]).Cells = cz B[i] := rfl
    have hCl : (cz B[i]).length ≤ 8 := by have := (j.set.row _ hm).len; have := j.set.w8; simp [cz]; omega
    have hf := fits_ref C j.e ⟨j.w1, j.set.w8⟩ (by omega) (j.set.row _ hm) hy (k := k) (by omega)
    have ih := refF_l4 j hT cells hc below hy d (i + 1) k (by omega) (by omega)
    obtain ⟨u, hu⟩ : ∃ u, mayN s C w h e B (h - (y + 1)) (numW C (sideN s B[i])) = u := ⟨_, rfl⟩
    obtain ⟨v, hv⟩ : ∃ v, fitC s w h e B[i] y = v := ⟨_, rfl⟩
    have hv' : alB e w h (mkR s B[i]) y = v := hv
    rw [hv'] at hf
    have hmid : (if u = true then (if 0 ≤ ((y + 1 : Nat) : Int) ∧ ((y + 1 : Nat) : Int) < (T.length : Int) then (if 0 ≤ ((numW C (sideN s B[i]) : Nat) : Int) ∧ ((numW C (sideN s B[i]) : Nat) : Int) < (((bitsN (C.length ^ w) (mayN s C w h e B (h - (y + 1)))).length : Nat) : Int) then ((ref02_fits k s (mkF s C B[i]) y h e).bind fun t => some t) else none) else none) else (if 0 ≤ ((y + 1 : Nat) : Int) ∧ ((y + 1 : Nat) : Int) < (T.length : Int) then (if 0 ≤ ((numW C (sideN s B[i]) : Nat) : Int) ∧ ((numW C (sideN s B[i]) : Nat) : Int) < (((bitsN (C.length ^ w) (mayN s C w h e B (h - (y + 1)))).length : Nat) : Int) then (some false) else none) else none)) = some (u && v) := by
      rw [if_pos (show 0 ≤ ((y + 1 : Nat) : Int) ∧ ((y + 1 : Nat) : Int) < (T.length : Int) by omega), if_pos (show 0 ≤ ((numW C (sideN s B[i]) : Nat) : Int) ∧ ((numW C (sideN s B[i]) : Nat) : Int) < (((bitsN (C.length ^ w) (mayN s C w h e B (h - (y + 1)))).length : Nat) : Int) by rw [bitsN_len]; omega), if_pos (show 0 ≤ ((y + 1 : Nat) : Int) ∧ ((y + 1 : Nat) : Int) < (T.length : Int) by omega), if_pos (show 0 ≤ ((numW C (sideN s B[i]) : Nat) : Int) ∧ ((numW C (sideN s B[i]) : Nat) : Int) < (((bitsN (C.length ^ w) (mayN s C w h e B (h - (y + 1)))).length : Nat) : Int) by rw [bitsN_len]; omega), hf]
      cases u <;> rfl
    have htake : takeC s C w h e B y below B[i] = ((decide (y = 0) || decide (((numW C (sideS s B[i]) : Nat) : Int) = below)) && (u && v)) := by unfold takeC; rw [hu, hv]
    rw [ref02_First.l4, if_pos (by simp; omega), if_pos hil, getR hi, hwy, hU, hN, hS, rdD_nat, bitsN_get _ _ n2, hu, hmid, hCe, hwi, List.drop_eq_getElem_cons hi, List.find?_cons, htake]
    have hstop : ∀ k', k' = k → ref02_First.l4 k' (cells ++ cz B[i]) ((numW C (sideN s B[i]) : Nat) : Int) true ((i + 1 : Nat) : Int) s h e (B.map (mkF s C)) T y = some (cells ++ cz B[i], ((numW C (sideN s B[i]) : Nat) : Int), true) := fun k' hk' => by
      obtain ⟨m, rfl⟩ : ∃ m, k' = m + 1 := ⟨k' - 1, by omega⟩
      rw [ref02_First.l4, if_neg (by simp)]
    have hfin : ∀ q : Bool, (if q = true then (if cells.length + (cz B[i]).length ≤ 100000000000 then (some (cells ++ cz B[i], ((numW C (sideN s B[i]) : Nat) : Int), true)) else none) else (some (cells, below, false))).bind (fun x => ref02_First.l4 k x.1 x.2.1 x.2.2 ((i + 1 : Nat) : Int) s h e (B.map (mkF s C)) T y) = some (match (match q with | true => some B[i] | false => (B.drop (i + 1)).find? (takeC s C w h e B y below)) with
      | some c => (cells ++ cz c, ((numW C (sideN s c) : Nat) : Int), true)
      | none => (cells, below, false)) := fun q => by
      cases q
      · exact ih
      · rw [if_pos rfl, if_pos (by omega), Option.bind_some]; exact hstop k rfl
    by_cases h0 : y = 0
    · rw [if_pos (by simp [h0]), Option.bind_some, decide_eq_true h0, Bool.true_or, Bool.true_and]
      exact hfin (u && v)
    · rw [if_neg (by rw [beq_iff_eq]; omega), decide_eq_false h0, Bool.false_or]
      by_cases hb : ((numW C (sideS s B[i]) : Nat) : Int) = below
      · rw [if_pos (by simpa using hb), Option.bind_some, decide_eq_true hb, Bool.true_and]
        exact hfin (u && v)
      · rw [if_neg (by simpa using hb), Option.bind_some, decide_eq_false hb, Bool.false_and]
        exact hfin false
end Gp
set_option linter.unusedVariables false
set_option linter.unusedSimpArgs false
namespace Gp
open Gw Gq
def refG (s : List Tile) (C : List Int) (w h : Nat) (e : Edges) (B : List (List Nat)) : Nat → Int → Option (List (List Nat))
  | 0, _ => some []
  | m + 1, below => match B.find? (takeC s C w h e B (h - (m + 1)) below) with
    | none => none
    | some c => (refG s C w h e B m ((numW C (sideN s c) : Nat) : Int)).map (c :: ·)
theorem refF_l3 {s : List Tile} {C : List Int} {w h : Nat} {e : Edges} {B : List (List Nat)} (j : JobC s C w h e B) {T : List (List Bool)} (hT : MayOK s C w h e B 0 T) : ∀ (m : Nat) (cells : List Int) (below : Int) (k : Nat), m ≤ h → cells.length ≤ 8 * (h - m) → B.length + w + m + 10 < k →
    ref02_First.l3 k cells below ((h - m : Nat) : Int) s h e (B.map (mkF s C)) T = some (match refG s C w h e B m below with
      | none => .inl (p0P, false)
      | some L => .inr (cells ++ L.flatMap cz))
  | 0, cells, below, k, hm, hc, hk => by
    obtain ⟨k, rfl⟩ : ∃ m, k = m + 1 := ⟨k - 1, by omega⟩
    rw [ref02_First.l3, if_neg (by simp), refG]; simp
  | m + 1, cells, below, k, hm, hc, hk => by
    obtain ⟨k, rfl⟩ : ∃ m, k = m + 1 := ⟨k - 1, by omega⟩
    have hh := j.hh
    have hwi : w64 (((h - (m + 1) : Nat) : Int) + 1) = ((h - m : Nat) : Int) := by rw [w64_id (by omega) (by omega)]; omega
    have l4 := refF_l4 j hT cells (by omega) below (y := h - (m + 1)) (by omega) B.length 0 k (by omega) (by omega)
    have l4 : ref02_First.l4 k cells below false 0 s h e (B.map (mkF s C)) T ((h - (m + 1) : Nat) : Int) = _ := l4
    rw [ref02_First.l3, if_pos (by simp; omega), l4, Option.bind_some, List.drop_zero, hwi, refG]
    cases hf : B.find? (takeC s C w h e B (h - (m + 1)) below) with
    | none => rfl
    | some c =>
      have hcm := List.mem_of_find?_eq_some hf
      have hcl : (cz c).length ≤ 8 := by have := (j.set.row _ hcm).len; have := j.set.w8; simp [cz]; omega
      simp only
      rw [if_neg (by decide), refF_l3 j hT m (cells ++ cz c) _ k (by omega) (by rw [List.length_append]; omega) (by omega)]
      cases refG s C w h e B m ((numW C (sideN s c) : Nat) : Int) with
      | none => rfl
      | some L => simp
def refX (s : List Tile) (w h : Nat) (e : Edges) : Pattern × Bool := match refG s (colsS s) w h e (rowsL s w []) h (-1) with
  | none => (p0P, false)
  | some L => (⟨w, h, L.flatMap cz⟩, true)
theorem job_of {s : List Tile} {w h : Nat} {e : Edges} (hw : 1 ≤ w ∧ w ≤ 8) (hh : 1 ≤ h ∧ h ≤ 60) (he : EdgeOK e w h) (hpow : (colsS s).length ^ w ≤ 1000000) (hrow : s.length ^ w ≤ 1000000) : JobC s (colsS s) w h e (rowsL s w []) :=
  ⟨⟨hw.2, colsS_col s, fun c hc => (mem_rowsL s w c).1 hc⟩, hw.1, hh, he, hpow, Nat.le_trans (rowsL_len s w []) hrow⟩
theorem edge_of {e : Edges} {w h : Nat} (he : sidesB e w h = true) : EdgeOK e w h := by
  unfold sidesB at he
  simp only [Bool.and_eq_true, Bool.or_eq_true, decide_eq_true_eq] at he
  exact ⟨he.1.1.1.imp id (fun h => by omega), he.1.1.2.imp id (fun h => by omega), he.1.2.imp id (fun h => by omega), he.2.imp id (fun h => by omega)⟩
theorem refFirst_eq (s : List Tile) {w h : Nat} {e : Edges} (hl : s.length ≤ 1000) (hw : 1 ≤ w ∧ w ≤ 8) (hh : 1 ≤ h ∧ h ≤ 60) (he : EdgeOK e w h) (hpow : (colsS s).length ^ w ≤ 1000000) (hrow : s.length ^ w ≤ 1000000) {k : Nat} (hk : 2100000 < k) : ref02_First k s w h e = some (refX s w h e) := by
  have j := job_of (e := e) hw hh he hpow hrow
  obtain ⟨_, h2, _⟩ := colsS_spec s
  have hlen := j.len
  have hw1 : w64 ((h : Int) + 1) = ((h + 1 : Nat) : Int) := by rw [w64_id (by omega) (by omega)]; rfl
  have hwm : w64 ((h : Int) - 1) = (h : Int) - 1 := w64_id (by omega) (by omega)
  have hrl : (List.replicate (h + 1) ([] : List Bool)).length = h + 1 := by simp
  obtain ⟨T0, hT0⟩ : ∃ T0, List.replicate (h + 1) ([] : List Bool) = T0 := ⟨_, rfl⟩
  rw [hT0] at hrl
  obtain ⟨M, hMd⟩ : ∃ M, (colsS s).length ^ w = M := ⟨_, rfl⟩
  have l0 := refF_l0 M (by omega) T0 h (by omega) (by omega) M 0 k (by omega) (by omega)
  have hb0 : bitsN M (fun x => decide (x < 0)) = List.replicate M false := by rw [bitsN_false]; rfl
  rw [hb0] at l0
  have l0 : ref02_First.l0 k (T0.set h (List.replicate M false)) 0 h M = _ := l0
  have hT : MayOK s (colsS s) w h e (rowsL s w []) h (T0.set h (bitsN M fun _ => true)) := by
    refine ⟨by rw [List.length_set]; exact hrl, fun z z1 z2 => ?_⟩
    have : z = h := by omega
    subst this
    rw [rd_set_same (by omega), hMd, Nat.sub_self]; rfl
  obtain ⟨T, hT1, hT2⟩ := refF_l1 j h _ k (Nat.le_refl _) hT (by omega)
  rw [hMd] at hT1
  have l3 := refF_l3 j hT2 h [] (-1) k (Nat.le_refl _) (by simp) (by omega)
  rw [Nat.sub_self] at l3
  have l3 : ref02_First.l3 k [] (-1) 0 s h e ((rowsL s w []).map (mkF s (colsS s))) T = _ := l3
  unfold ref02_First refX
  rw [rows_ref s w hl hpow hrow (by omega) (by omega), Option.bind_some, colours_eq s (by omega) (by omega), Option.bind_some, power_eq _ w (by omega) (by omega) (by omega), Nat.min_eq_left hpow, hMd, Option.bind_some, hw1, hwm, if_pos (by omega), if_pos (by omega), Int.toNat_natCast, Int.toNat_natCast, Int.toNat_natCast, hT0, if_pos (by omega), l0, Option.bind_some, hT1, Option.bind_some, l3, Option.bind_some]
  cases refG s (colsS s) w h e (rowsL s w []) h (-1) <;> simp [sumb]
theorem idx_find {α : Type} (p : α → Bool) : ∀ xs : List α, (xs.findIdx? p = none ∧ xs.find? p = none) ∨ ∃ (i : Nat) (h : i < xs.length), xs.findIdx? p = some i ∧ xs.find? p = some xs[i]
  | [] => .inl ⟨rfl, rfl⟩
  | a :: xs => by
    rw [List.findIdx?_cons, List.find?_cons]
    cases p a with
    | true => exact .inr ⟨0, by simp, rfl, rfl⟩
    | false =>
      rcases idx_find p xs with ⟨h1, h2⟩ | ⟨i, h, h1, h2⟩
      · left; simp [h1, h2]
      · right; exact ⟨i + 1, by simpa using h, by simp [h1], by simpa using h2⟩
theorem find_congr {α : Type} {p q : α → Bool} : ∀ {l : List α}, (∀ x ∈ l, p x = q x) → l.find? p = l.find? q
  | [], _ => rfl
  | a :: l, h => by
    rw [List.find?_cons, List.find?_cons, h a (List.mem_cons_self ..), find_congr (fun x hx => h x (List.mem_cons_of_mem _ hx))]
theorem canUp_may {s : List Tile} {C : List Int} {w h : Nat} {e : Edges} {B : List (List Nat)} (j : JobC s C w h e B) : ∀ (n : Nat) (c : List Nat), c ∈ B → canUp (B.map (mkR s)) (alB e w h) h n (mkR s c) = (mayN s C w h e B n (numW C (sideN s c)) && fitC s w h e c (h - 1 - n))
  | 0, c, hc => by rw [canUp, mayN]; rfl
  | n + 1, c, hc => by
    obtain ⟨lS, lN, mS, mN⟩ := j.set.mem hc
    rw [canUp, mayN, Bool.and_comm]
    congr 1
    rw [List.any_map, Bool.eq_iff_iff, List.any_eq_true, List.any_eq_true]
    have key : ∀ c' ∈ B, (((fun r' : Row => decide (r'.South = (mkR s c).North) && canUp (B.map (mkR s)) (alB e w h) h n r') ∘ mkR s) c') = (numW C (sideS s c') == numW C (sideN s c) && (mayN s C w h e B n (numW C (sideN s c')) && fitC s w h e c' (h - 1 - n))) := fun c' hc' => by
      obtain ⟨lS', lN', mS', mN'⟩ := j.set.mem hc'
      show (decide (wordOf (sideS s c') = wordOf (sideN s c)) && canUp _ _ h n (mkR s c')) = _
      rw [canUp_may j n c' hc']
      congr 1
      have := j.set.w8
      rw [Bool.eq_iff_iff, decide_eq_true_eq, beq_iff_eq, wordOf_inj (by omega) (by omega)]
      exact ⟨fun e => by rw [e], fun e => numW_inj C _ _ (by omega) mS' mN e⟩
    exact ⟨fun ⟨x, hx, h⟩ => ⟨x, hx, by rw [← key x hx]; exact h⟩, fun ⟨x, hx, h⟩ => ⟨x, hx, by rw [key x hx]; exact h⟩⟩
theorem greedy_ref {s : List Tile} {C : List Int} {w h : Nat} {e : Edges} {B : List (List Nat)} (j : JobC s C w h e B) : ∀ (m : Nat) (b : Option Nat) (below : Int), m ≤ h → ((b = none ∧ m = h) ∨ (m < h ∧ ∃ (i : Nat) (hi : i < B.length), b = some i ∧ below = ((numW C (sideN s B[i]) : Nat) : Int))) →
    (greedy (B.map (mkR s)) (alB e w h) h m b).map (cellsOf (B.map (mkR s))) = (refG s C w h e B m below).map fun L => L.flatMap cz
  | 0, b, below, hm, hb => rfl
  | m + 1, b, below, hm, hb => by
    have hq : ∀ c ∈ B, ((fun r : Row => canUp (B.map (mkR s)) (alB e w h) h m r && belowB (B.map (mkR s)) b r) ∘ mkR s) c = takeC s C w h e B (h - (m + 1)) below c := fun c hc => by
      obtain ⟨lS, lN, mS, mN⟩ := j.set.mem hc
      show (canUp _ _ h m (mkR s c) && belowB _ b (mkR s c)) = _
      rw [canUp_may j m c hc]
      unfold takeC
      rw [Bool.and_comm, show h - (h - (m + 1) + 1) = m by omega, show h - 1 - m = h - (m + 1) by omega]
      congr 1
      rcases hb with ⟨rfl, he⟩ | ⟨hlt, i, hi, rfl, rfl⟩
      · rw [show h - (m + 1) = 0 by omega]; rfl
      · obtain ⟨lS', lN', mS', mN'⟩ := j.set.mem (List.getElem_mem hi)
        have : decide (h - (m + 1) = 0) = false := decide_eq_false (by omega)
        rw [this, Bool.false_or]
        unfold belowB
        have hg : (B.map (mkR s)).getD i z_Row = mkR s B[i] := by simp [List.getElem?_eq_getElem hi]
        simp only [hg]
        show decide (wordOf (sideN s B[i]) = wordOf (sideS s c)) = _
        have := j.set.w8
        rw [Bool.eq_iff_iff, decide_eq_true_eq, decide_eq_true_eq, wordOf_inj (by omega) (by omega)]
        exact ⟨fun e => by rw [e], fun e => numW_inj C _ _ (by omega) mN' mS (by omega)⟩
    rw [greedy, refG, List.findIdx?_map, ← find_congr hq]
    rcases idx_find ((fun r : Row => canUp (B.map (mkR s)) (alB e w h) h m r && belowB (B.map (mkR s)) b r) ∘ mkR s) B with ⟨h1, h2⟩ | ⟨i, hi, h1, h2⟩
    · rw [h1, h2]; rfl
    · rw [h1, h2]
      simp only
      have ih := greedy_ref j m (some i) ((numW C (sideN s B[i]) : Nat) : Int) (by omega) (.inr ⟨by omega, i, hi, rfl, rfl⟩)
      have hg : (B.map (mkR s)).getD i z_Row = mkR s B[i] := by simp [List.getElem?_eq_getElem hi]
      rw [Option.map_map, Option.map_map]
      cases hG : greedy (B.map (mkR s)) (alB e w h) h m (some i) with
      | none =>
        rw [hG] at ih
        cases hR : refG s C w h e B m ((numW C (sideN s B[i]) : Nat) : Int) with
        | none => rfl
        | some L => rw [hR] at ih; cases ih
      | some l =>
        rw [hG] at ih
        cases hR : refG s C w h e B m ((numW C (sideN s B[i]) : Nat) : Int) with
        | none => rw [hR] at ih; cases ih
        | some L =>
          rw [hR] at ih
          simp only [Option.map_some, Option.some.injEq] at ih
          show some (cellsOf _ (i :: l)) = some ((B[i] :: L).flatMap cz)
          unfold cellsOf at ih ⊢
          rw [List.flatMap_cons, List.flatMap_cons, ih, hg]; rfl
theorem first_same {s : List Tile} {w h : Nat} {e : Edges} (hw : 1 ≤ w ∧ w ≤ 8) (hh : 1 ≤ h ∧ h ≤ 60) (he : EdgeOK e w h) (hpow : (colsS s).length ^ w ≤ 1000000) (hrow : s.length ^ w ≤ 1000000) : (refX s w h e).1 = (firstX s w h e).1 ∧ (refX s w h e).2 = ((firstX s w h e).2 == 0) := by
  have j := job_of (e := e) hw hh he hpow hrow
  have := greedy_ref j h none (-1) (Nat.le_refl _) (.inl ⟨rfl, rfl⟩)
  unfold refX firstX
  have e1 : allR s w = (rowsL s w []).map (mkR s) := rfl
  rw [e1]
  cases hG : greedy ((rowsL s w []).map (mkR s)) (alB e w h) h h none with
  | none =>
    rw [hG] at this
    cases hR : refG s (colsS s) w h e (rowsL s w []) h (-1) with
    | none => exact ⟨rfl, rfl⟩
    | some L => rw [hR] at this; cases this
  | some l =>
    rw [hG] at this
    cases hR : refG s (colsS s) w h e (rowsL s w []) h (-1) with
    | none => rw [hR] at this; cases this
    | some L =>
      rw [hR] at this
      simp only [Option.map_some, Option.some.injEq] at this
      exact ⟨by simp only; rw [this], rfl⟩
end Gp
set_option linter.unusedVariables false
set_option linter.unusedSimpArgs false
namespace Gp
open Gw Gq
end Gp
set_option linter.unusedVariables false
set_option linter.unusedSimpArgs false
namespace Gp
open Gw Gq
theorem awake02_ok (k : Nat) : law02_awake (k + 300) = some true := by kernel_rfl
/-! ### the first filling of a rectangle -/
theorem fault_eq {s : List Tile} (hl : s.length ≤ 9223372036854775807) (w h : Int) (e : Edges) {k : Nat} (hk : 2002 < k) : ref02_Fault k s w h e = some (if validT s = true then (if (1 ≤ w ∧ w ≤ 8 ∧ 1 ≤ h ∧ h ≤ 60) then (if sidesB e w h = true then 0 else 2) else 2) else 1) := by
  have hs : ∀ (l : List Int) (n : Int), (((l.length : Int) == 0) || ((l.length : Int) == n)) = (decide (l.length = 0) || decide ((l.length : Int) = n)) := fun l n => by
    rw [Bool.eq_iff_iff]; simp
  unfold ref02_Fault ref02_side
  rw [valid01 s hk hl, Option.bind_some]
  cases hv : validT s
  · rfl
  rw [if_neg (by decide), if_pos rfl]
  by_cases hr : 1 ≤ w ∧ w ≤ 8 ∧ 1 ≤ h ∧ h ≤ 60
  rotate_left
  · rw [if_pos (by simp; omega), if_neg hr]
  rw [if_neg (by simp; omega), if_pos hr, hs, hs, hs, hs]
  unfold sidesB
  cases (decide (e.North.length = 0) || decide ((e.North.length : Int) = w)) <;> cases (decide (e.South.length = 0) || decide ((e.South.length : Int) = w)) <;> cases (decide (e.West.length = 0) || decide ((e.West.length : Int) = h)) <;> cases (decide (e.East.length = 0) || decide ((e.East.length : Int) = h)) <;> rfl
theorem heavy02 (s : List Tile) (hl : s.length ≤ 1000) {w : Nat} (hw : w ≤ 1000) {k : Nat} (hk : 10000 < k) : ∃ b, law02_heavy k s w = some b ∧ (b = false → s.length ≤ 60 ∧ (colsS s).length ^ w ≤ 1500 ∧ s.length ^ w ≤ 40000) := by
  unfold law02_heavy
  by_cases h : s.length ≤ 60
  · have h0 : decide ((s.length : Int) > 60) = false := decide_eq_false (by omega)
    rw [h0, if_neg (by decide), light_some s hl hw hk]
    refine ⟨_, rfl, fun hb => ?_⟩
    rw [Bool.not_eq_false', Bool.and_eq_true, decide_eq_true_eq, decide_eq_true_eq] at hb
    omega
  · have h0 : decide ((s.length : Int) > 60) = true := decide_eq_true (by omega)
    rw [h0, if_pos rfl]
    exact ⟨true, rfl, fun h => by cases h⟩
theorem same0 {k : Nat} (hk : 0 < k) : ref01_SamePattern k p0P (Pattern.mk 0 0 ([] : List Int)) = some true := samePat p0P (by simp [p0P]) (by simpa [p0P] using hk)
theorem firstX_cases (s : List Tile) (w h : Nat) (e : Edges) : firstX s w h e = (p0P, 6) ∨ (firstX s w h e).2 = 0 := by
  unfold firstX
  cases greedy (allR s w) (alB e w h) h h none with
  | none => exact .inl rfl
  | some l => exact .inr rfl
theorem firstX_len {s : List Tile} {w h : Nat} {e : Edges} (hw : 1 ≤ w ∧ w ≤ 8) (hh : 1 ≤ h ∧ h ≤ 60) (h0 : (firstX s w h e).2 = 0) : (firstX s w h e).1.Cells.length ≤ 480 := by
  obtain ⟨f, hf, _, hp⟩ := first_pat s e hw.2 hh.1 h0
  rw [hp, (patR_cells hf).1]
  have : h * w ≤ 60 * 8 := Nat.mul_le_mul hh.2 hw.2
  omega
theorem law02_FillFirst_pure : ∀ (p0 : List Tile) (p1 : Int) (p2 : Int) (p3 : Edges), ((∀ x ∈ p0, ok_Tile x) ∧ p0.length ≤ Go.maxLen) → (ok64 p1) → (ok64 p2) → (ok_Edges p3) → ∃ k, law02_FillFirst k p0 p1 p2 p3 = some true := by
  intro s a b e hs _ _ _
  have hl : s.length ≤ 9223372036854775807 := hs.2
  refine ⟨3000000, ?_⟩
  have aw : law02_awake 3000000 = some true := awake02_ok 2999700
  unfold law02_FillFirst law02_wide
  rw [Option.bind_some]
  split
  · rw [aw]; rfl
  rw [fault_eq hl a b e (by omega), Option.bind_some]
  obtain ⟨b1, b2, b3, b4⟩ := first_bad s a b e hl (k := 3000000) (by omega)
  have bad : ∀ c : Int, c ≠ 0 → fill_First 3000000 s a b e = some (p0P, c) → ((fill_First 3000000 s a b e).bind fun t27700 => (if (t27700.2 == c) = true then ((ref01_SamePattern 3000000 t27700.1 (Pattern.mk 0 0 ([] : List Int))).bind fun t27722 => some t27722) else (some false)).bind fun x27719 => (if x27719 = true then ((law02_awake 3000000).bind fun t27741 => some t27741) else (some false)).bind fun x27738 => some x27738) = some true := fun c hc h => by
    rw [h, Option.bind_some, if_pos (by simp), same0 (by omega), Option.bind_some, Option.bind_some, if_pos rfl, aw]; rfl
  cases hv : validT s
  · rw [if_neg (show ¬ (false = true) by decide), if_pos (by decide)]
    exact bad 1 (by decide) (b1 hv)
  rw [if_pos rfl]
  by_cases hr : 1 ≤ a ∧ a ≤ 8 ∧ 1 ≤ b ∧ b ≤ 60
  rotate_left
  · rw [if_neg hr, if_pos (by decide)]
    exact bad 2 (by decide) (b2 hv hr)
  rw [if_pos hr]
  cases hsd : sidesB e a b
  · rw [if_neg (show ¬ (false = true) by decide), if_pos (by decide)]
    exact bad 2 (by decide) (b3 hv hr hsd)
  rw [if_pos rfl, if_neg (by decide)]
  have hl1 := valid_len hv
  obtain ⟨w, rfl⟩ : ∃ w : Nat, a = w := ⟨a.toNat, by omega⟩
  obtain ⟨h, rfl⟩ : ∃ h : Nat, b = h := ⟨b.toNat, by omega⟩
  have hw : 1 ≤ w ∧ w ≤ 8 := by omega
  have hh : 1 ≤ h ∧ h ≤ 60 := by omega
  obtain ⟨hb, hhv, hh2⟩ := heavy02 s hl1 (w := w) (by omega) (k := 3000000) (by omega)
  rw [hhv, Option.bind_some]
  cases hb
  rotate_left
  · rw [if_pos rfl, aw]; rfl
  obtain ⟨g1, g2, g3⟩ := hh2 rfl
  rw [if_neg (show ¬ (false = true) by decide)]
  cases hf : fewB s.length w
  · rw [b4 hv hr hsd (by rw [Int.toNat_natCast]; exact hf), Option.bind_some, if_pos (by decide), great_eq s hl1 ⟨hw.1, by omega⟩ (by omega), hf, Option.bind_some, Option.bind_some, if_pos (by decide), same0 (by omega), Option.bind_some, if_pos rfl, aw]; rfl
  · rw [first_ok s w h e hv hw hh hsd hf (by omega), Option.bind_some]
    obtain ⟨s1, s2⟩ := first_same (e := e) hw hh (edge_of hsd) (by omega : (colsS s).length ^ w ≤ 1000000) (by omega : s.length ^ w ≤ 1000000)
    rcases firstX_cases s w h e with hx | hx
    · have hr1 : (refX s w h e).2 = false := by rw [s2, hx]; rfl
      rw [hx, if_neg (by decide), Option.bind_some, if_neg (show ¬ (false = true) by decide), refFirst_eq s hl1 hw hh (edge_of hsd) (by omega) (by omega) (by omega), Option.bind_some, hr1, if_pos (by decide), if_pos (by decide), same0 (by omega), Option.bind_some, Option.bind_some, if_pos rfl, aw]; rfl
    · have hr1 : (refX s w h e).2 = true := by rw [s2, hx]; rfl
      have hlen := firstX_len (e := e) hw hh hx
      rw [hx, if_neg (by decide), Option.bind_some, if_neg (show ¬ (false = true) by decide), refFirst_eq s hl1 hw hh (edge_of hsd) (by omega) (by omega) (by omega), Option.bind_some, hr1, if_neg (by decide), if_pos (by decide), s1, samePat _ (by omega) (by omega), Option.bind_some, Option.bind_some, if_pos rfl, aw]; rfl
end Gp
