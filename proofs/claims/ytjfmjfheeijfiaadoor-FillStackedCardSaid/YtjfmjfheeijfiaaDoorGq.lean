/- The plain law: what the functions compute answers as the statement says. -/
import Derived.Test.YtjfmjfheeijfiaaDoorGp
import Derived.KernelRfl
set_option linter.unusedVariables false
set_option linter.unusedSimpArgs false
namespace Gq
open Go Gw Gp
/-! ### numbers and lists -/
theorem w64_id {n : Int} (h0 : -9223372036854775808 ≤ n) (h1 : n ≤ 9223372036854775807) : w64 n = n := by
  show IntKind.i64.wrap n = n
  have e : IntKind.i64.wrap n = if (true && decide (n % 18446744073709551616 ≥ 9223372036854775808)) = true then n % 18446744073709551616 - 18446744073709551616 else n % 18446744073709551616 := rfl
  rw [e]
  simp only [Bool.true_and, decide_eq_true_eq]
  split <;> omega
theorem rdD_nat {α : Type} (xs : List α) (i : Nat) (d : α) : rdD xs (i : Int) d = xs.getD i d := by simp [rdD]
theorem rdD_get {α : Type} {xs : List α} {i : Nat} (h : i < xs.length) (d : α) : rdD xs (i : Int) d = xs[i] := by
  simp [rdD, List.getD, List.getElem?_eq_getElem h]
def firstS {α β : Type} (g : Nat → α → Option β) : Nat → List α → Option β
  | _, [] => none
  | i, a :: r => match g i a with
    | some b => some b
    | none => firstS g (i + 1) r
def fin {β : Type} : Option β → Sum β Unit
  | some b => .inl b
  | none => .inr ()
theorem scan {α β : Type} {F : Nat → Int → Option (Sum β Unit)} {xs : List α} {g : Nat → α → Option β}
    (hF : ∀ k (i : Nat), i ≤ xs.length → F (k + 1) (i : Int) = if h : i < xs.length then (match g i xs[i] with | some b => some (.inl b) | none => F k ((i + 1 : Nat) : Int)) else some (.inr ())) :
    ∀ (n k i : Nat), i + n = xs.length → n < k → F k (i : Int) = some (fin (firstS g i (xs.drop i)))
  | 0, k, i, hi, hk => by
    obtain ⟨k, rfl⟩ : ∃ m, k = m + 1 := ⟨k - 1, by omega⟩
    have hi : i = xs.length := by omega
    subst hi
    rw [hF k _ (Nat.le_refl _), dif_neg (Nat.lt_irrefl _), List.drop_length]; rfl
  | n + 1, k, i, hi, hk => by
    obtain ⟨k, rfl⟩ : ∃ m, k = m + 1 := ⟨k - 1, by omega⟩
    have hlt : i < xs.length := by omega
    rw [hF k i (by omega), dif_pos hlt, List.drop_eq_getElem_cons hlt, firstS]
    cases hg : g i xs[i] with
    | some b => rfl
    | none => exact scan hF n k (i + 1) (by omega) (by omega)
end Gq
set_option linter.unusedVariables false
set_option linter.unusedSimpArgs false
namespace Gq
theorem flat_succ {α : Type} (f : Nat → List α) (n : Nat) : (List.range (n + 1)).flatMap f = (List.range n).flatMap f ++ f n := by
  rw [List.range_succ, List.flatMap_append]; simp
end Gq
namespace Gp
open Gw Gq
/-! ### the tiles of a machine -/
def hd (Y q s : Nat) : Int := ((Y + q * Y + s : Nat) : Int)
end Gp
set_option linter.unusedVariables false
set_option linter.unusedSimpArgs false
namespace Gq
theorem flat_get {α : Type} {f : Nat → List α} : ∀ {n q j : Nat} {t : α}, q < n → (f q)[j]? = some t → ((List.range n).flatMap f)[((List.range q).flatMap f).length + j]? = some t
  | 0, q, j, t, h, _ => by omega
  | n + 1, q, j, t, h, hj => by
    rw [flat_succ, List.getElem?_append]
    by_cases hq : q < n
    · have := flat_get (n := n) hq hj
      rw [if_pos (by by_cases hl : ((List.range q).flatMap f).length + j < ((List.range n).flatMap f).length
                     · exact hl
                     · rw [List.getElem?_eq_none (by omega)] at this; cases this)]
      exact this
    · have : q = n := by omega
      subst this
      rw [if_neg (by omega), show ((List.range q).flatMap f).length + j - ((List.range q).flatMap f).length = j by omega]; exact hj
theorem flat_len {α : Type} {f : Nat → List α} {b : Nat} (hf : ∀ i, (f i).length = b) : ∀ n, ((List.range n).flatMap f).length = n * b
  | 0 => by simp
  | n + 1 => by
    rw [flat_succ, List.length_append, Nat.add_mul, Nat.one_mul, flat_len hf n, hf n]
end Gq
namespace Gp
open Gw Gq
/-! ### where the tiles of a machine lie -/
end Gp
set_option linter.unusedVariables false
set_option linter.unusedSimpArgs false
namespace Gp
open Gw Gq
/-! ### the tile that shows a cell of a step -/
theorem Tile.ext' {a b : Tile} (h1 : a.N = b.N) (h2 : a.E = b.E) (h3 : a.S = b.S) (h4 : a.W = b.W) : a = b := by
  cases a; cases b; simp only at h1 h2 h3 h4; subst h1 h2 h3 h4; rfl
end Gp
set_option linter.unusedVariables false
set_option linter.unusedSimpArgs false
namespace Gq
theorem loop_all {σ ρ τ : Type} {F : Nat → Int → σ → Option (Sum ρ τ)} {S : Nat → σ} {b : Nat → Bool} {n K : Nat} {r : ρ} {e : τ} (hs : ∀ k i, K ≤ k → i < n → F (k + 1) (i : Int) (S i) = if b i = true then F k ((i + 1 : Nat) : Int) (S (i + 1)) else some (.inl r)) (he : ∀ k, F (k + 1) (n : Int) (S n) = some (.inr e)) :
    ∀ k, n + K < k → F k 0 (S 0) = some (if (List.range n).all b = true then .inr e else .inl r) := by
  have key : ∀ d i k, i + d = n → d + K < k → F k (i : Int) (S i) = some (if (List.range' i d).all b = true then .inr e else .inl r) := by
    intro d
    induction d with
    | zero =>
      intro i k hi hk
      obtain ⟨k, rfl⟩ : ∃ m, k = m + 1 := ⟨k - 1, by omega⟩
      have : i = n := by omega
      subst this; rw [he]; rfl
    | succ d ih =>
      intro i k hi hk
      obtain ⟨k, rfl⟩ : ∃ m, k = m + 1 := ⟨k - 1, by omega⟩
      rw [hs k i (by omega) (by omega), List.range'_succ, List.all_cons]
      cases hb : b i
      · rfl
      · rw [if_pos rfl, ih (i + 1) k (by omega) (by omega)]; rfl
  intro k hk
  rw [List.range_eq_range']
  exact key n 0 k (by omega) hk
theorem firstS_ge' {α : Type} {p : α → Bool} : ∀ (xs : List α) (i : Nat), (match firstS (fun i a => if p a = true then none else some (i : Int)) i xs with
    | some x => decide (0 ≤ x)
    | none => false) = !xs.all p
  | [], i => rfl
  | a :: r, i => by
    rw [firstS]
    cases h : p a
    · simp [h]
    · simp only [if_true, List.all_cons, h, Bool.true_and]
      exact firstS_ge' r (i + 1)
end Gq
namespace Gp
open Gw Gq
/-! ### sets of tiles and patterns -/
def inCol (c : Int) : Bool := decide (0 ≤ c ∧ c < 1000)
def colB (t : Tile) : Bool := inCol t.N && inCol t.E && inCol t.S && inCol t.W
theorem idx_col (xs : List Int) (hl : xs.length ≤ 1000000) (k : Nat) (hk : xs.length < k) :
    slices_IndexFunc_int_int_with_tile_colour_1.l0 k 0 xs = some (fin (firstS (fun i a => if inCol a = true then none else some (i : Int)) 0 xs)) := by
  have := scan (F := fun k i => slices_IndexFunc_int_int_with_tile_colour_1.l0 k i xs) (xs := xs) (g := fun i a => if inCol a = true then none else some (i : Int)) (fun k i hi => by
    show slices_IndexFunc_int_int_with_tile_colour_1.l0 (k + 1) i xs = _
    rw [slices_IndexFunc_int_int_with_tile_colour_1.l0]
    by_cases h : i < xs.length
    · have h' : (i : Int) < (xs.length : Int) := by omega
      have h2 : 0 ≤ (i : Int) ∧ (i : Int) < (xs.length : Int) := by omega
      rw [dif_pos h, if_pos (by simpa using h'), if_pos h2, rdD_get h, tile_colour_1, w64_id (by omega) (by omega)]
      by_cases hb : 0 ≤ xs[i] ∧ xs[i] < 1000
      · have h3 : ¬ (xs[i] < 0 ∨ 1000 ≤ xs[i]) := by omega
        simp [inCol, hb]
        intro hh; exact absurd hh h3
      · have h3 : (xs[i] < 0 ∨ 1000 ≤ xs[i]) := by omega
        simp [inCol, hb, h3]
    · have h' : ¬ (i : Int) < (xs.length : Int) := by omega
      rw [dif_neg h, if_neg (by simpa using h')]) xs.length k 0 (by simp) hk
  simpa using this
theorem colour_eq (xs : List Int) (hl : xs.length ≤ 1000000) (k : Nat) (hk : xs.length < k) : tile_colour k xs = some (xs.all inCol) := by
  unfold tile_colour slices_ContainsFunc_int_int_with_tile_colour_1 slices_IndexFunc_int_int_with_tile_colour_1
  rw [idx_col xs hl k hk]
  have := firstS_ge' (p := inCol) xs 0
  cases hf : firstS (fun i a => if inCol a = true then none else some (i : Int)) 0 xs <;> rw [hf] at this <;> cases ha : xs.all inCol <;> rw [ha] at this <;> simp [fin, sumb] at this ⊢
  · exact this
  · exact this
def metS (set : List Tile) (i : Nat) : List (Tile × Bool) := (set.take i).map fun t => (t, true)
theorem mget_met (t : Tile) : ∀ l : List Tile, mget t false (l.map fun t => (t, true)) = decide (t ∈ l)
  | [] => rfl
  | a :: r => by
    simp only [List.map_cons, mget]
    by_cases h : t = a
    · simp [h]
    · rw [if_neg h, mget_met t r]; simp [h]
theorem mput_met (t : Tile) : ∀ l : List Tile, t ∉ l → mput t true (l.map fun t => (t, true)) = (l.map fun t => (t, true)) ++ [(t, true)]
  | [], _ => rfl
  | a :: r, h => by
    simp only [List.mem_cons, not_or] at h
    simp only [List.map_cons, mput, if_neg h.1, mput_met t r h.2, List.cons_append]
def newB (set : List Tile) (i : Nat) : Bool := !decide (set.getD i z_Tile ∈ set.take i) && colB (set.getD i z_Tile)
def validT (set : List Tile) : Bool := decide (set.length ≤ 1000) && (List.range set.length).all (newB set)
theorem tile_valid (set : List Tile) {k : Nat} (hk : 1006 ≤ k) (hl : set.length ≤ 9223372036854775807) : tile_Valid k set = some (validT set) := by
  unfold tile_Valid validT
  by_cases hb : set.length ≤ 1000
  · rw [if_neg (by simp; omega)]
    have := loop_all (F := fun k i (m : List (Tile × Bool)) => tile_Valid.l0 k m i set) (S := metS set) (b := newB set) (n := set.length) (K := 5) (r := false) (e := ()) (fun k i hk hi => by
      show tile_Valid.l0 (k + 1) (metS set i) i set = if newB set i = true then tile_Valid.l0 k (metS set (i + 1)) ((i + 1 : Nat) : Int) set else _
      rw [tile_Valid.l0, if_pos (by simpa using hi), if_pos (by omega), rdD_nat, metS, mget_met]
      have ht : set.getD i z_Tile = set[i] := by simp [List.getElem?_eq_getElem hi]
      unfold newB
      by_cases hm : set.getD i z_Tile ∈ set.take i
      · rw [if_pos (by simpa using hm), show decide (set.getD i z_Tile ∈ set.take i) = true from decide_eq_true hm]; rfl
      · rw [if_neg (by simpa using hm), colour_eq _ (by simp) k (by simp; omega), Option.bind_some, Option.bind_some]
        have hc : ([(set.getD i z_Tile).N, (set.getD i z_Tile).E, (set.getD i z_Tile).S, (set.getD i z_Tile).W].all inCol) = colB (set.getD i z_Tile) := by simp [colB, Bool.and_assoc]
        rw [hc]
        cases hcb : colB (set.getD i z_Tile)
        · simp
        · rw [mput_met _ _ hm, w64_id (by omega) (by omega)]
          simp only [hm, Bool.not_true, Bool.false_eq_true, if_false, decide_false, Bool.not_false, Bool.and_self, if_true]
          unfold metS
          rw [List.take_add_one, List.map_append, List.getElem?_eq_getElem hi, ht]; rfl) (fun k => by
      show tile_Valid.l0 (k + 1) (metS set set.length) set.length set = _
      rw [tile_Valid.l0, if_neg (by simp)]) k (by omega)
    have h0 : tile_Valid.l0 k [] 0 set = some (if (List.range set.length).all (newB set) = true then .inr () else .inl false) := this
    rw [h0]
    cases (List.range set.length).all (newB set) <;> simp [sumb, hb]
  · rw [if_pos (by simp; omega)]; simp [hb]
def formB (p : Pattern) : Bool := decide (1 ≤ p.Width ∧ 1 ≤ p.Height ∧ p.Width ≤ 40000 ∧ p.Height ≤ 40000 ∧ p.Width * p.Height ≤ 40000 ∧ (p.Cells.length : Int) = p.Width * p.Height)
def inSet (n : Nat) (c : Int) : Bool := decide (0 ≤ c ∧ c < (n : Int))
def ofB (set : List Tile) (p : Pattern) : Bool := validT set && formB p && p.Cells.all (inSet set.length)
structure PForm (set : List Tile) (p : Pattern) (W H : Nat) : Prop where
  w : p.Width = W
  h : p.Height = H
  dW : 1 ≤ W ∧ W ≤ 40000
  dH : 1 ≤ H ∧ H ≤ 40000
  wh : H * W ≤ 40000
  len : p.Cells.length = H * W
  cel : ∀ j, j < H * W → 0 ≤ p.Cells.getD j 0 ∧ p.Cells.getD j 0 < (set.length : Int)
theorem place_lt {W H x y : Nat} (hx : x < W) (hy : y < H) : y * W + x < H * W := by
  have := Nat.mul_le_mul_right W (show y + 1 ≤ H by omega)
  rw [Nat.succ_mul] at this; omega
end Gp
set_option linter.unusedVariables false
set_option linter.unusedSimpArgs false
namespace Gp
open Gw Gq
/-! ### the pictures are patterns of the tiles -/
theorem PForm.of {set : List Tile} {p : Pattern} {W H : Nat} (f : PForm set p W H) (hv : validT set = true) : ofB set p = true := by
  unfold ofB formB
  have h1 := f.dW; have h2 := f.dH; have h3 := f.wh
  have e : p.Width * p.Height = ((H * W : Nat) : Int) := by rw [f.w, f.h, Int.natCast_mul, Int.mul_comm]
  rw [hv, e, f.w, f.h, f.len]
  simp only [Bool.true_and, Bool.and_eq_true, decide_eq_true_eq, List.all_eq_true]
  refine ⟨⟨by omega, by omega, by omega, by omega, by omega, trivial⟩, fun a ha => ?_⟩
  obtain ⟨j, hj, he⟩ := List.mem_iff_getElem.1 ha
  have := f.cel j (by rw [← f.len]; exact hj)
  rw [show p.Cells.getD j 0 = p.Cells[j] from by simp [List.getElem?_eq_getElem hj], he] at this
  unfold inSet; exact decide_eq_true this
end Gp
set_option linter.unusedVariables false
set_option linter.unusedSimpArgs false
namespace Gq
end Gq
namespace Gp
open Gw Gq
/-! ### the patterns of the statements' own reference -/
end Gp
set_option linter.unusedVariables false
set_option linter.unusedSimpArgs false
namespace Gp
open Gw Gq
end Gp
set_option linter.unusedVariables false
set_option linter.unusedSimpArgs false
namespace Gp
open Gw Gq
/-! ### a torus, repeated -/
end Gp
set_option linter.unusedVariables false
set_option linter.unusedSimpArgs false
namespace Gp
open Gw Gq
/-! ### the first layer's reference -/
theorem colour01 (c : Int) : ref01_colour c = some (inCol c) := by
  unfold ref01_colour inCol
  by_cases h : 0 ≤ c ∧ c < 1000
  · simp [h]
  · rw [decide_eq_false h]
    congr 1
    cases h1 : decide (c ≥ 0)
    · rfl
    · have : ¬ c < 1000 := fun h2 => h ⟨by simpa using h1, h2⟩
      simp [this]
theorem index01 {set : List Tile} (hl : set.length ≤ 1000000) (t : Tile) {k : Nat} (hk : set.length < k) : ∃ r : Int, ref01_Index k set t = some r ∧ decide (r ≥ 0) = decide (t ∈ set) := by
  have := scan (F := fun k i => ref01_Index.l0 k i set t) (xs := set) (g := fun i a => if a = t then some (i : Int) else none) (fun k i hi => by
    show ref01_Index.l0 (k + 1) i set t = _
    rw [ref01_Index.l0]
    by_cases h : i < set.length
    · have h2 : 0 ≤ (i : Int) ∧ (i : Int) < (set.length : Int) := by omega
      rw [dif_pos h, if_pos (by simpa using h), if_pos h2, rdD_get h, w64_id (by omega) (by omega)]
      by_cases hb : set[i] = t
      · subst hb; simp
      · have : ((set[i].N == t.N) && ((set[i].E == t.E) && ((set[i].S == t.S) && (set[i].W == t.W)))) = false := by
          cases hc : ((set[i].N == t.N) && ((set[i].E == t.E) && ((set[i].S == t.S) && (set[i].W == t.W))))
          · rfl
          · simp only [Bool.and_eq_true, beq_iff_eq] at hc
            exact absurd (Tile.ext' hc.1 hc.2.1 hc.2.2.1 hc.2.2.2) hb
        rw [this, if_neg hb]; rfl
    · rw [dif_neg h, if_neg (by simpa using h)]) set.length k 0 (by simp) hk
  have h0 : ref01_Index.l0 k 0 set t = some (fin (firstS (fun i a => if a = t then some (i : Int) else none) 0 (set.drop 0))) := this
  rw [List.drop_zero] at h0
  have key : ∀ (l : List Tile) (i : Nat), match firstS (fun i a => if a = t then some (i : Int) else none) i l with
      | some x => decide (x ≥ 0) = decide (t ∈ l)
      | none => decide (t ∈ l) = false := by
    intro l
    induction l with
    | nil => intro i; simp [firstS]
    | cons a r ih =>
      intro i
      rw [firstS]
      by_cases ha : a = t
      · subst ha; simp
      · have hne : ¬ t = a := fun e => ha e.symm
        rw [if_neg ha]
        have := ih (i + 1)
        cases hf : firstS (fun i a => if a = t then some (i : Int) else none) (i + 1) r with
        | none => rw [hf] at this; simp only [List.mem_cons, hne, false_or]; exact this
        | some x => rw [hf] at this; simp only [List.mem_cons, hne, false_or]; exact this
  unfold ref01_Index
  rw [h0]
  have hk2 := key set 0
  cases hf : firstS (fun i a => if a = t then some (i : Int) else none) 0 set with
  | none => rw [hf] at hk2; exact ⟨-1, rfl, by rw [hk2]; rfl⟩
  | some x => rw [hf] at hk2; exact ⟨x, rfl, hk2⟩
theorem valid01 (set : List Tile) {k : Nat} (hk : 2002 < k) (hl : set.length ≤ 9223372036854775807) : ref01_Valid k set = some (validT set) := by
  unfold ref01_Valid validT
  by_cases hb : set.length ≤ 1000
  · rw [if_neg (by simp; omega)]
    have := loop_all (F := fun k i (_ : Unit) => ref01_Valid.l0 k i set) (S := fun _ => ()) (b := newB set) (n := set.length) (K := 1001) (r := false) (e := ()) (fun k i hk hi => by
      show ref01_Valid.l0 (k + 1) i set = if newB set i = true then ref01_Valid.l0 k ((i + 1 : Nat) : Int) set else _
      have hcut : cut set (0 : Int) (i : Int) = set.take i := by unfold cut; simp
      obtain ⟨r, hr, hd⟩ := index01 (set := set.take i) (by rw [List.length_take]; omega) (set.getD i z_Tile) (k := k) (by rw [List.length_take]; omega)
      rw [ref01_Valid.l0, if_pos (by simpa using hi), if_pos (by omega)]
      simp only [rdD_nat, colour01, Option.bind_some, hcut]
      rw [if_pos (⟨by omega, by omega, by omega⟩ : 0 ≤ (0 : Int) ∧ (0 : Int) ≤ (i : Int) ∧ (i : Int) ≤ (set.length : Int)), hr, w64_id (by omega) (by omega)]
      simp only [Option.bind_some, hd]
      unfold newB colB
      cases inCol (set.getD i z_Tile).N
      · simp
      · cases inCol (set.getD i z_Tile).E
        · simp
        · cases inCol (set.getD i z_Tile).S
          · simp
          · cases inCol (set.getD i z_Tile).W
            · simp
            · cases decide (set.getD i z_Tile ∈ set.take i) <;> simp) (fun k => by
      show ref01_Valid.l0 (k + 1) set.length set = _
      rw [ref01_Valid.l0, if_neg (by simp)]) k (by omega)
    have h0 : ref01_Valid.l0 k 0 set = some (if (List.range set.length).all (newB set) = true then .inr () else .inl false) := this
    rw [h0]
    cases (List.range set.length).all (newB set) <;> simp [sumb, hb]
  · rw [if_pos (by simp; omega)]; simp [hb]
end Gp
set_option linter.unusedVariables false
set_option linter.unusedSimpArgs false
namespace Gp
open Gw Gq
/-! ### grids: lists of rows -/
def grid (w h : Nat) (g : Nat → Nat → Int) : List Int := (List.range h).flatMap fun y => (List.range w).map (g y)
theorem grid_len (w h : Nat) (g : Nat → Nat → Int) : (grid w h g).length = h * w := flat_len (f := fun y => (List.range w).map (g y)) (b := w) (fun y => by simp) h
theorem grid_get (w h : Nat) (g : Nat → Nat → Int) {x y : Nat} (hx : x < w) (hy : y < h) : (grid w h g).getD (y * w + x) 0 = g y x := by
  have := flat_get (f := fun y => (List.range w).map (g y)) (n := h) (q := y) (j := x) (t := g y x) hy (by simp [hx])
  have e : ((List.range y).flatMap fun y => (List.range w).map (g y)).length = y * w := grid_len w y g
  rw [e] at this
  unfold grid
  rw [List.getD_eq_getElem?_getD, this]; rfl
/-! ### stores into a list -/
def sets (l : List Int) (q : List (Nat × Int)) : List Int := q.foldl (fun l p => l.set p.1 p.2) l
/-! ### patterns that have the form of one -/
structure GForm (p : Pattern) (W H : Nat) : Prop where
  w : p.Width = W
  h : p.Height = H
  dW : 1 ≤ W ∧ W ≤ 40000
  dH : 1 ≤ H ∧ H ≤ 40000
  wh : H * W ≤ 40000
  len : p.Cells.length = H * W
theorem GForm.form {p : Pattern} {W H : Nat} (f : GForm p W H) : formB p = true := by
  have h1 := f.dW; have h2 := f.dH; have h3 := f.wh
  have e : p.Width * p.Height = ((H * W : Nat) : Int) := by rw [f.w, f.h, Int.natCast_mul, Int.mul_comm]
  unfold formB; rw [e, f.w, f.h, f.len]; exact decide_eq_true ⟨by omega, by omega, by omega, by omega, by omega, rfl⟩
theorem PForm.g {set : List Tile} {p : Pattern} {W H : Nat} (f : PForm set p W H) : GForm p W H := ⟨f.w, f.h, f.dW, f.dH, f.wh, f.len⟩
def cellG (p : Pattern) (W y x : Nat) : Int := p.Cells.getD (y * W + x) 0
theorem GForm.at {p : Pattern} {W H : Nat} (f : GForm p W H) {x y : Nat} (hx : x < W) (hy : y < H) : w64 (w64 ((y : Int) * (W : Int)) + (x : Int)) = ((y * W + x : Nat) : Int) ∧ (0 ≤ ((y * W + x : Nat) : Int) ∧ ((y * W + x : Nat) : Int) < (p.Cells.length : Int)) := by
  have hwh := f.wh
  have hp := place_lt hx hy
  refine ⟨?_, by omega, by rw [f.len]; omega⟩
  rw [← Int.natCast_mul, w64_id (n := ((y * W : Nat) : Int)) (by omega) (by omega), w64_id (by omega) (by omega)]; rfl
/-! ### the changed patterns -/
end Gp
set_option linter.unusedVariables false
set_option linter.unusedSimpArgs false
namespace Gp
open Gw Gq
/-! ### cuts -/
/-! ### patterns, repeated -/
/-! ### what is equal -/
end Gp
set_option linter.unusedVariables false
set_option linter.unusedSimpArgs false
namespace Gp
open Gw Gq
/-! ### changed sets -/
def upT (t : Tile) : Tile := ⟨t.S, t.E, t.N, t.W⟩
structure Chg (f : Tile → Tile) : Prop where
  inj : ∀ a b, f a = f b → a = b
  col : ∀ t, colB (f t) = colB t
theorem chg_up : Chg upT := ⟨fun a b h => by cases a; cases b; simp only [upT, Tile.mk.injEq] at h; obtain ⟨rfl, rfl, rfl, rfl⟩ := h; rfl, fun t => by unfold colB upT; simp only; cases inCol t.N <;> cases inCol t.E <;> cases inCol t.S <;> cases inCol t.W <;> rfl⟩
theorem getD_map (f : Tile → Tile) {s : List Tile} {i : Nat} (h : i < s.length) : (s.map f).getD i z_Tile = f (s.getD i z_Tile) := by simp [List.getElem?_eq_getElem h]
theorem Chg.valid {f : Tile → Tile} (c : Chg f) {s : List Tile} (hv : validT s = true) : validT (s.map f) = true := by
  unfold validT at hv ⊢
  simp only [Bool.and_eq_true, decide_eq_true_eq, List.all_eq_true, List.mem_range, List.length_map] at hv ⊢
  refine ⟨hv.1, fun i hi => ?_⟩
  have := hv.2 i hi
  unfold newB at this ⊢
  rw [getD_map f hi, ← List.map_take, c.col]
  simp only [Bool.and_eq_true, Bool.not_eq_true', decide_eq_false_iff_not] at this ⊢
  refine ⟨fun hm => this.1 ?_, this.2⟩
  obtain ⟨a, ha, he⟩ := List.mem_map.1 hm
  rw [← c.inj _ _ he]; exact ha
/-! ### how the tiles of a grid meet -/
def JP (W H : Nat) (round : Bool) (T : Nat → Nat → Tile) : Prop :=
  (∀ y x, y < H → x < W → (x + 1 < W ∨ round = true) → (T y x).E = (T y ((x + 1) % W)).W) ∧ (∀ y x, y < H → x < W → (y + 1 < H ∨ round = true) → (T y x).N = (T ((y + 1) % H) x).S)
theorem JP.congr {W H : Nat} {round : Bool} {T T' : Nat → Nat → Tile} (he : ∀ y x, y < H → x < W → T y x = T' y x) (h : JP W H round T) : JP W H round T' := by
  refine ⟨fun y x hy hx hr => ?_, fun y x hy hx hr => ?_⟩
  · rw [← he y x hy hx, ← he y _ hy (Nat.mod_lt _ (by omega))]; exact h.1 y x hy hx hr
  · rw [← he y x hy hx, ← he _ x (Nat.mod_lt _ (by omega)) hx]; exact h.2 y x hy hx hr
def GP (W H : Nat) (c : Nat → Nat → Int) : Pattern := ⟨W, H, grid W H c⟩
def TT (s : List Tile) (c : Nat → Nat → Int) (y x : Nat) : Tile := s.getD (c y x).toNat z_Tile
structure GOK (s : List Tile) (W H : Nat) (c : Nat → Nat → Int) (whole : Bool) : Prop where
  valid : validT s = true
  dW : 1 ≤ W ∧ W ≤ 40000
  dH : 1 ≤ H ∧ H ≤ 40000
  wh : H * W ≤ 40000
  cel : ∀ y x, y < H → x < W → 0 ≤ c y x ∧ c y x < (s.length : Int)
  fits : JP W H false (TT s c)
  round : whole = true ↔ JP W H true (TT s c)
theorem valid_len {s : List Tile} (hv : validT s = true) : s.length ≤ 1000 := by unfold validT at hv; simp only [Bool.and_eq_true, decide_eq_true_eq] at hv; exact hv.1
theorem GOK.congr {s : List Tile} {W H : Nat} {c c' : Nat → Nat → Int} {whole : Bool} (g : GOK s W H c whole) (he : ∀ y x, y < H → x < W → c y x = c' y x) : GOK s W H c' whole := by
  have ht : ∀ y x, y < H → x < W → TT s c y x = TT s c' y x := fun y x hy hx => by unfold TT; rw [he y x hy hx]
  exact ⟨g.valid, g.dW, g.dH, g.wh, fun y x hy hx => by rw [← he y x hy hx]; exact g.cel y x hy hx, g.fits.congr ht, g.round.trans ⟨fun h => h.congr ht, fun h => h.congr (fun y x hy hx => (ht y x hy hx).symm)⟩⟩
theorem TT_map {f : Tile → Tile} {s : List Tile} {c : Nat → Nat → Int} {y x : Nat} (h : 0 ≤ c y x ∧ c y x < (s.length : Int)) : TT (s.map f) c y x = f (TT s c y x) := by
  unfold TT
  rw [getD_map f (by omega)]
/-! mirrored -/
theorem mod_back {W x : Nat} (hx : x < W) : (W - 1 - (x + 1) % W + 1) % W = W - 1 - x ∧ W - 1 - (x + 1) % W < W ∧ (x + 1 < W → W - 1 - (x + 1) % W + 1 < W) := by
  by_cases h : x + 1 < W
  · rw [Nat.mod_eq_of_lt h, show W - 1 - (x + 1) + 1 = W - 1 - x by omega, Nat.mod_eq_of_lt (by omega)]; omega
  · have e : x + 1 = W := by omega
    rw [e, Nat.mod_self, show W - 1 - 0 + 1 = W by omega, Nat.mod_self]; omega
theorem JP.up {W H : Nat} {round : Bool} {T : Nat → Nat → Tile} (h : JP W H round T) : JP W H round (fun y x => upT (T (H - 1 - y) x)) := by
  refine ⟨fun y x hy hx hr => ?_, fun y x hy hx hr => ?_⟩
  · exact h.1 (H - 1 - y) x (by omega) hx hr
  · obtain ⟨e, hlt, hi⟩ := mod_back hy
    have := h.2 (H - 1 - (y + 1) % H) x hlt hx (hr.imp hi id)
    rw [e] at this
    exact this.symm
theorem GOK.up {s : List Tile} {W H : Nat} {c : Nat → Nat → Int} {whole : Bool} (g : GOK s W H c whole) : GOK (s.map upT) W H (fun y x => c (H - 1 - y) x) whole := by
  have hdH := g.dH
  have ht : ∀ y x, y < H → x < W → upT (TT s c (H - 1 - y) x) = TT (s.map upT) (fun y x => c (H - 1 - y) x) y x := fun y x hy hx => by
    exact (TT_map (f := upT) (c := fun y x => c (H - 1 - y) x) (y := y) (x := x) (g.cel (H - 1 - y) x (by omega) hx)).symm
  refine ⟨chg_up.valid g.valid, g.dW, g.dH, g.wh, fun y x hy hx => by rw [List.length_map]; exact g.cel _ x (by omega) hx, g.fits.up.congr ht, ?_⟩
  rw [g.round]
  constructor
  · exact fun h => h.up.congr ht
  · intro h
    have := (h.congr (fun y x hy hx => (ht y x hy hx).symm)).up
    exact this.congr fun y x hy hx => by
      rw [show H - 1 - (H - 1 - y) = y by omega]; rfl
theorem GP.g {W H : Nat} {c : Nat → Nat → Int} (dW : 1 ≤ W ∧ W ≤ 40000) (dH : 1 ≤ H ∧ H ≤ 40000) (wh : H * W ≤ 40000) : GForm (GP W H c) W H := ⟨rfl, rfl, dW, dH, wh, grid_len W H c⟩
theorem GP.cell {W H : Nat} (c : Nat → Nat → Int) {y x : Nat} (hy : y < H) (hx : x < W) : cellG (GP W H c) W y x = c y x := grid_get W H c hx hy
end Gp
set_option linter.unusedVariables false
set_option linter.unusedSimpArgs false
namespace Gp
open Gw Gq
end Gp
set_option linter.unusedVariables false
set_option linter.unusedSimpArgs false
namespace Gq
theorem loop_list {α σ τ : Type} {F : Nat → Int → σ → Option τ} (xs : List α) (step : σ → α → σ) (K : Nat) (P : Nat → σ → Prop) (fin : σ → τ)
    (hs : ∀ k i s (h : i < xs.length), K ≤ k → P i s → F (k + 1) (i : Int) s = F k ((i + 1 : Nat) : Int) (step s xs[i]) ∧ P (i + 1) (step s xs[i])) (he : ∀ k s, P xs.length s → F (k + 1) (xs.length : Int) s = some (fin s)) :
    ∀ (s0 : σ), P 0 s0 → ∀ k, xs.length + K < k → F k 0 s0 = some (fin (xs.foldl step s0)) := by
  have key : ∀ d i s k, i + d = xs.length → P i s → d + K < k → F k (i : Int) s = some (fin ((xs.drop i).foldl step s)) := by
    intro d
    induction d with
    | zero =>
      intro i s k hi hp hk
      obtain ⟨k, rfl⟩ : ∃ m, k = m + 1 := ⟨k - 1, by omega⟩
      have : i = xs.length := by omega
      subst this
      rw [he k s hp, List.drop_length]; rfl
    | succ d ih =>
      intro i s k hi hp hk
      obtain ⟨k, rfl⟩ : ∃ m, k = m + 1 := ⟨k - 1, by omega⟩
      have hlt : i < xs.length := by omega
      obtain ⟨h1, h2⟩ := hs k i s hlt (by omega) hp
      rw [h1, ih (i + 1) _ k (by omega) h2 (by omega), List.drop_eq_getElem_cons hlt]; rfl
  intro s0 h0 k hk
  have := key xs.length 0 s0 k (by omega) h0 hk
  simpa using this
end Gq
namespace Gp
open Gw Gq
/-! ### words, rows -/
def tat (set : List Tile) (i : Nat) : Tile := set.getD i z_Tile
def cz (c : List Nat) : List Int := c.map fun (i : Nat) => (i : Int)
def wordOf (l : List Int) : A8_Int := ⟨l.getD 0 0, l.getD 1 0, l.getD 2 0, l.getD 3 0, l.getD 4 0, l.getD 5 0, l.getD 6 0, l.getD 7 0⟩
def mkR (set : List Tile) (c : List Nat) : Row := ⟨cz c, wordOf (c.map fun i => (tat set i).S), wordOf (c.map fun i => (tat set i).N), (tat set (c.headD 0)).W, (tat set (c.getLastD 0)).E⟩
def follows (set : List Tile) (c : List Nat) (i : Nat) : Bool := match c.getLast? with
  | none => true
  | some j => (tat set j).E == (tat set i).W
def rowsL (set : List Tile) : Nat → List Nat → List (List Nat)
  | 0, c => [c]
  | n + 1, c => ((List.range set.length).filter (follows set c)).flatMap fun i => rowsL set n (c ++ [i])
theorem wordOf_get (l : List Int) (i : Nat) (hi : i < 8) : (wordOf l).get i = l.getD i 0 := by
  have : i = 0 ∨ i = 1 ∨ i = 2 ∨ i = 3 ∨ i = 4 ∨ i = 5 ∨ i = 6 ∨ i = 7 := by omega
  rcases this with rfl | rfl | rfl | rfl | rfl | rfl | rfl | rfl <;> rfl
theorem wordOf_inj {a b : List Int} (ha : a.length ≤ 8) (h : a.length = b.length) : wordOf a = wordOf b ↔ a = b := by
  constructor
  · intro e
    apply List.ext_getElem? 
    intro i
    by_cases hi : i < a.length
    · have h1 := wordOf_get a i (by omega)
      have h2 := wordOf_get b i (by omega)
      rw [e, h2] at h1
      rw [List.getElem?_eq_getElem hi, List.getElem?_eq_getElem (by omega)]
      simp only [List.getD, List.getElem?_eq_getElem hi, List.getElem?_eq_getElem (show i < b.length by omega), Option.getD_some] at h1
      rw [h1]
    · rw [List.getElem?_eq_none (by omega), List.getElem?_eq_none (by omega)]
  · intro e; rw [e]
theorem wordOf_set (l : List Int) (v : Int) (hl : l.length < 8) : (wordOf l).set l.length v = wordOf (l ++ [v]) := by
  have : l.length = 0 ∨ l.length = 1 ∨ l.length = 2 ∨ l.length = 3 ∨ l.length = 4 ∨ l.length = 5 ∨ l.length = 6 ∨ l.length = 7 := by omega
  match l, this with
  | [], _ => rfl
  | [a], _ => rfl
  | [a, b], _ => rfl
  | [a, b, c], _ => rfl
  | [a, b, c, d], _ => rfl
  | [a, b, c, d, e], _ => rfl
  | [a, b, c, d, e, f], _ => rfl
  | [a, b, c, d, e, f, g], _ => rfl
  | _ :: _ :: _ :: _ :: _ :: _ :: _ :: _ :: l, h => simp at h
theorem rowOf_l0 (set : List Tile) (c : List Nat) (hc : ∀ i ∈ c, i < set.length) (h8 : c.length ≤ 8) {k : Nat} (hk : c.length < k) :
    rows_rowOf.l0 k (A8_Int.mk 0 0 0 0 0 0 0 0) (A8_Int.mk 0 0 0 0 0 0 0 0) 0 set (cz c) = some (wordOf (c.map fun i => (tat set i).S), wordOf (c.map fun i => (tat set i).N)) := by
  have key : ∀ d i k, i + d = c.length → d < k → rows_rowOf.l0 k (wordOf ((c.take i).map fun i => (tat set i).S)) (wordOf ((c.take i).map fun i => (tat set i).N)) (i : Int) set (cz c) = some (wordOf (c.map fun i => (tat set i).S), wordOf (c.map fun i => (tat set i).N)) := by
    intro d
    induction d with
    | zero =>
      intro i k hi hk
      obtain ⟨k, rfl⟩ : ∃ m, k = m + 1 := ⟨k - 1, by omega⟩
      have : i = c.length := by omega
      subst this
      rw [rows_rowOf.l0, if_neg (by simp [cz]), List.take_length]
    | succ d ih =>
      intro i k hi hk
      obtain ⟨k, rfl⟩ : ∃ m, k = m + 1 := ⟨k - 1, by omega⟩
      have hlt : i < c.length := by omega
      have hci := hc c[i] (List.getElem_mem _)
      have hz : rdD (cz c) (i : Int) 0 = ((c[i] : Nat) : Int) := by rw [rdD_get (by simpa [cz] using hlt)]; simp [cz]
      rw [rows_rowOf.l0, if_pos (by simp [cz]; omega), if_pos (by simp [cz]; omega), hz, if_pos (by omega), if_pos (by omega), w64_id (by omega) (by omega), rdD_nat]
      have e1 := wordOf_set ((c.take i).map fun i => (tat set i).S) (tat set c[i]).S (by simp; omega)
      have e2 := wordOf_set ((c.take i).map fun i => (tat set i).N) (tat set c[i]).N (by simp; omega)
      have hlen : ((c.take i).map fun i => (tat set i).S).length = i := by simp; omega
      have hlen2 : ((c.take i).map fun i => (tat set i).N).length = i := by simp; omega
      rw [hlen] at e1; rw [hlen2] at e2
      have ht : c.take (i + 1) = c.take i ++ [c[i]] := by rw [List.take_add_one, List.getElem?_eq_getElem hlt]; rfl
      show rows_rowOf.l0 k (A8_Int.set _ i (tat set c[i]).S) (A8_Int.set _ i (tat set c[i]).N) _ set (cz c) = _
      rw [e1, e2]
      have := ih (i + 1) k (by omega) (by omega)
      rw [ht, List.map_append, List.map_append] at this
      exact this
  exact key c.length 0 k (by omega) hk
theorem rowOf_eq (set : List Tile) (c : List Nat) (hc : ∀ i ∈ c, i < set.length) (h8 : c.length ≤ 8) (h1 : 1 ≤ c.length) {k : Nat} (hk : c.length < k) : rows_rowOf k set (cz c) = some (mkR set c) := by
  have hl : (cz c).length = c.length := by simp [cz]
  have h0 : rdD (cz c) (0 : Int) 0 = ((c.headD 0 : Nat) : Int) := by
    cases c with
    | nil => simp at h1
    | cons a r => rfl
  have hn : c ≠ [] := by intro e; rw [e] at h1; simp at h1
  have hh : c.headD 0 < set.length := by
    cases c with
    | nil => simp at h1
    | cons a r => exact hc a (by simp)
  have hlast : c.getLastD 0 < set.length := by
    rw [List.getLastD_eq_getLast?, List.getLast?_eq_some_getLast hn]; exact hc _ (List.getLast_mem hn)
  have hw : w64 (((cz c).length : Int) - 1) = ((c.length - 1 : Nat) : Int) := by rw [hl, w64_id (by omega) (by omega)]; omega
  have hz : rdD (cz c) (((c.length - 1 : Nat) : Int)) 0 = ((c.getLastD 0 : Nat) : Int) := by
    rw [rdD_get (by rw [hl]; omega)]
    rw [List.getLastD_eq_getLast?, List.getLast?_eq_some_getLast hn, Option.getD_some, List.getLast_eq_getElem]
    simp [cz]
  unfold rows_rowOf
  rw [rowOf_l0 set c hc h8 hk, hw, hz, h0, if_pos (by simp [cz]; omega), Option.bind_some, if_pos (by rw [hl]; omega), if_pos (by omega), if_pos (by rw [hl]; omega), if_pos (by omega), rdD_nat, rdD_nat]
  rfl
theorem all1 (set : List Tile) (w : Nat) (h1 : 1 ≤ w) (h8 : w ≤ 8) (hl : set.length ≤ 1000000) : ∀ (n x : Nat) (c : List Nat) (out : List Row) (cells : List Int) (k : Nat), x + n = w → c.length = x → (∀ i ∈ c, i < set.length) → cells.length = w → cells.take x = cz c →
    out.length + (rowsL set n c).length ≤ 100000000000 → n + set.length + 10 < k → ∃ cells', rows_All_1 k (x : Int) (w : Int) out set cells = some (out ++ (rowsL set n c).map (mkR set), cells') ∧ cells'.length = w ∧ cells'.take x = cz c := by
  intro n
  induction n with
  | zero =>
    intro x c out cells k hx hc hcs hcl hct hb hk
    obtain ⟨k, rfl⟩ : ∃ m, k = m + 1 := ⟨k - 1, by omega⟩
    have hxw : x = w := by omega
    subst hxw
    have he : cells = cz c := by rw [← hct, ← hcl, List.take_length]
    refine ⟨cells, ?_, hcl, hct⟩
    rw [rows_All_1, if_pos (by simp), he, rowOf_eq set c hcs (by omega) (by omega) (by omega), Option.bind_some, if_pos (by simp [rowsL] at hb; omega)]
    rfl
  | succ n ih =>
    intro x c out cells k hx hc hcs hcl hct hb hk
    obtain ⟨k, rfl⟩ : ∃ m, k = m + 1 := ⟨k - 1, by omega⟩
    have key : ∀ d i k' (out : List Row) (cells : List Int), i + d = set.length → d < k' → cells.length = w → cells.take x = cz c → out.length + (((List.range' i d).filter (follows set c)).flatMap fun i => rowsL set n (c ++ [i])).length ≤ 100000000000 →
        ∃ cells', rows_All_1.l0 k' out cells (i : Int) (x : Int) (w : Int) set (rows_All_1 k) = some (out ++ (((List.range' i d).filter (follows set c)).flatMap fun i => rowsL set n (c ++ [i])).map (mkR set), cells') ∧ cells'.length = w ∧ cells'.take x = cz c := by
      intro d
      induction d with
      | zero =>
        intro i k' out cells hi hk' hcl hct hb
        obtain ⟨k', rfl⟩ : ∃ m, k' = m + 1 := ⟨k' - 1, by omega⟩
        have : i = set.length := by omega
        subst this
        refine ⟨cells, ?_, hcl, hct⟩
        rw [rows_All_1.l0, if_neg (by simp)]; simp
      | succ d ihd =>
        intro i k' out cells hi hk' hcl hct hb
        obtain ⟨k', rfl⟩ : ∃ m, k' = m + 1 := ⟨k' - 1, by omega⟩
        have hlt : i < set.length := by omega
        have hcond : (if ((x : Int) == 0) = true then (some true) else (if 0 ≤ w64 ((x : Int) - 1) ∧ w64 ((x : Int) - 1) < (cells.length : Int) then (if 0 ≤ (rdD cells (w64 ((x : Int) - 1)) 0) ∧ (rdD cells (w64 ((x : Int) - 1)) 0) < (set.length : Int) then (some (((rdD set (rdD cells (w64 ((x : Int) - 1)) 0) z_Tile).E) == ((rdD set (i : Int) z_Tile).W))) else none) else none)) = some (follows set c i) := by
          by_cases h0 : x = 0
          · subst h0
            have : c = [] := List.eq_nil_of_length_eq_zero hc
            subst this
            rfl
          · have hn : c ≠ [] := by intro e; rw [e] at hc; simp at hc; omega
            have hw : w64 ((x : Int) - 1) = ((x - 1 : Nat) : Int) := by rw [w64_id (by omega) (by omega)]; omega
            have hz : rdD cells (((x - 1 : Nat) : Int)) 0 = ((c.getLast hn : Nat) : Int) := by
              rw [rdD_get (by omega)]
              have : cells[x - 1]'(by omega) = (cells.take x)[x - 1]'(by simp; omega) := by simp
              rw [this]
              simp only [hct, List.getLast_eq_getElem]
              simp [cz, hc]
            have hm := hcs _ (List.getLast_mem hn)
            rw [if_neg (by simp; omega), hw, if_pos (by omega), hz, if_pos (by omega), rdD_nat, rdD_nat]
            unfold follows
            rw [List.getLast?_eq_some_getLast hn]; rfl
        have hwi : w64 ((i : Int) + 1) = ((i + 1 : Nat) : Int) := by rw [w64_id (by omega) (by omega)]; rfl
        rw [rows_All_1.l0, if_pos (by simpa using hlt), if_pos (by omega), hcond, Option.bind_some, hwi]
        rw [List.range'_succ, List.filter_cons] at hb ⊢
        cases hf : follows set c i
        · rw [hf] at hb
          simp only [Bool.false_eq_true, if_false] at hb ⊢
          rw [Option.bind_some]
          exact ihd (i + 1) k' out cells (by omega) (by omega) hcl hct hb
        · rw [hf] at hb
          simp only [if_true, List.flatMap_cons, List.length_append] at hb ⊢
          have hset : (cells.set x (i : Int)).take (x + 1) = cz (c ++ [i]) := by
            rw [List.take_add_one, List.take_set_of_le (Nat.le_refl _), hct, List.getElem?_set_self (by omega)]
            simp [cz]
          have hw1 : w64 ((x : Int) + 1) = ((x + 1 : Nat) : Int) := by rw [w64_id (by omega) (by omega)]; rfl
          obtain ⟨cells1, e1, l1, t1⟩ := ih (x + 1) (c ++ [i]) out (cells.set x (i : Int)) k (by omega) (by simp [hc]) (fun j hj => by
            rcases List.mem_append.1 hj with hj | hj
            · exact hcs j hj
            · simp at hj; omega) (by simp [hcl]) hset (by omega) (by omega)
          have t1' : cells1.take x = cz c := by
            have : cells1.take x = (cells1.take (x + 1)).take x := by rw [List.take_take, Nat.min_eq_left (by omega)]
            rw [this, t1]
            simp [cz, ← hc]
          obtain ⟨cells2, e2, l2, t2⟩ := ihd (i + 1) k' (out ++ (rowsL set n (c ++ [i])).map (mkR set)) cells1 (by omega) (by omega) l1 t1' (by simp only [List.length_append, List.length_map]; omega)
          refine ⟨cells2, ?_, l2, t2⟩
          rw [if_pos (by omega), hw1]
          simp only [Int.toNat_natCast]
          rw [e1, Option.bind_some, Option.bind_some]
          show rows_All_1.l0 k' _ cells1 ((i + 1 : Nat) : Int) _ _ _ _ = _
          rw [e2, List.map_append, List.append_assoc]
    rw [rowsL] at hb
    rw [List.range_eq_range'] at hb
    obtain ⟨cells', e, l, t⟩ := key set.length 0 k out cells (by omega) (by omega) hcl hct hb
    refine ⟨cells', ?_, l, t⟩
    rw [rows_All_1, if_neg (by simp; omega)]
    have e' : rows_All_1.l0 k out cells 0 (x : Int) (w : Int) set (rows_All_1 k) = _ := e
    rw [e', Option.bind_some, rowsL, List.range_eq_range']
theorem rowsL_len (set : List Tile) : ∀ (n : Nat) (c : List Nat), (rowsL set n c).length ≤ set.length ^ n
  | 0, c => by simp [rowsL]
  | n + 1, c => by
    rw [rowsL, List.length_flatMap]
    have : ∀ l : List Nat, (l.map fun i => (rowsL set n (c ++ [i])).length).sum ≤ l.length * set.length ^ n := by
      intro l
      induction l with
      | nil => simp
      | cons a r ih =>
        simp only [List.map_cons, List.sum_cons, List.length_cons]
        have := rowsL_len set n (c ++ [a])
        rw [Nat.add_mul]; omega
    refine Nat.le_trans (this _) ?_
    have h2 : ((List.range set.length).filter (follows set c)).length ≤ set.length := by
      have := List.length_filter_le (follows set c) (List.range set.length); simpa using this
    rw [Nat.pow_succ, Nat.mul_comm (set.length ^ n)]
    exact Nat.mul_le_mul_right _ h2
def allR (set : List Tile) (w : Nat) : List Row := (rowsL set w []).map (mkR set)
theorem all_eq (set : List Tile) (w : Nat) (h1 : 1 ≤ w) (h8 : w ≤ 8) (hl : set.length ≤ 1000000) (hf : set.length ^ w ≤ 100000000000) {k : Nat} (hk : set.length + 20 < k) : rows_All k set (w : Int) = some (allR set w) := by
  have hb := rowsL_len set w []
  obtain ⟨cells, e, _, _⟩ := all1 set w h1 h8 hl w 0 [] [] (List.replicate w 0) k (by omega) rfl (fun i h => by cases h) (by simp) (by simp [cz]) (by simp; omega) (by omega)
  unfold rows_All
  have e' : rows_All_1 k 0 (w : Int) [] set (List.replicate w 0) = _ := e
  rw [if_pos (by omega), Int.toNat_natCast, e']; rfl
/-! few -/
def fewB (n w : Nat) : Bool := decide ((max n 1) ^ w ≤ 5000)
theorem few_eq (set : List Tile) (w : Nat) (hw : w ≤ 1000) (hl : set.length ≤ 1000000) {k : Nat} (hk : w < k) : rows_Few k set (w : Int) = some (fewB set.length w) := by
  have hm : maxI (set.length : Int) 1 = ((max set.length 1 : Nat) : Int) := by unfold maxI; split <;> omega
  obtain ⟨m, hmd⟩ : ∃ m, max set.length 1 = m := ⟨_, rfl⟩
  have hm1 : 1 ≤ m := by omega
  have hm2 : m ≤ 1000000 := by omega
  have key : ∀ d i k, i + d = w → d < k → m ^ i ≤ 5000 → rows_Few.l0 k ((m ^ i : Nat) : Int) (i : Int) set (w : Int) = some (if m ^ w ≤ 5000 then .inr () else .inl false) := by
    intro d
    induction d with
    | zero =>
      intro i k hi hk hp
      obtain ⟨k, rfl⟩ : ∃ m, k = m + 1 := ⟨k - 1, by omega⟩
      have : i = w := by omega
      subst this
      rw [rows_Few.l0, if_neg (by simp), if_pos hp]
    | succ d ih =>
      intro i k hi hk hp
      obtain ⟨k, rfl⟩ : ∃ m, k = m + 1 := ⟨k - 1, by omega⟩
      have hpp : m ^ i * m ≤ 5000 * 1000000 := Nat.mul_le_mul hp hm2
      have e : w64 (((m ^ i : Nat) : Int) * maxI (set.length : Int) 1) = ((m ^ (i + 1) : Nat) : Int) := by
        rw [hm, hmd, ← Int.natCast_mul, Nat.pow_succ, w64_id (by omega) (by omega)]
      have hle : m ^ (i + 1) ≤ m ^ w := Nat.pow_le_pow_right hm1 (by omega)
      obtain ⟨q, hq⟩ : ∃ q, m ^ (i + 1) = q := ⟨_, rfl⟩
      rw [rows_Few.l0, if_pos (by simp; omega), e]
      have hwi : w64 ((i : Int) + 1) = ((i + 1 : Nat) : Int) := by rw [w64_id (by omega) (by omega)]; rfl
      by_cases h5 : q ≤ 5000
      · rw [if_neg (by rw [hq]; simp; omega), hwi]
        exact ih (i + 1) k (by omega) (by omega) (by rw [hq]; exact h5)
      · rw [if_pos (by rw [hq]; simp; omega), if_neg]
        intro hw5
        omega
  have := key w 0 k (by omega) hk (by simp)
  have h0 : rows_Few.l0 k 1 0 set (w : Int) = _ := this
  unfold rows_Few fewB
  rw [h0, hmd]
  by_cases h5 : m ^ w ≤ 5000
  · rw [if_pos h5]; simp [sumb, h5]
  · rw [if_neg h5]; simp [sumb, h5]
end Gp
set_option linter.unusedVariables false
set_option linter.unusedSimpArgs false
namespace Gq
open Gw
theorem mget_mput {κ ν : Type} [DecidableEq κ] (x y : κ) (z v : ν) : ∀ l : List (κ × ν), mget x z (mput y v l) = if x = y then v else mget x z l
  | [] => by simp [mput, mget]
  | p :: r => by
    simp only [mput]
    by_cases h : y = p.1
    · rw [if_pos h]
      simp only [mget]
      by_cases hx : x = y
      · rw [if_pos hx, if_pos hx]
      · rw [if_neg hx, if_neg hx, if_neg (fun e => hx (e.trans h.symm))]
    · rw [if_neg h]
      simp only [mget]
      by_cases hx : x = p.1
      · rw [if_pos hx, if_pos hx, if_neg (fun e => h (e.symm.trans hx))]
      · rw [if_neg hx, if_neg hx]; exact mget_mput x y z v r
end Gq
namespace Gp
open Gw Gq
/-! ### rectangles that are filled -/
def atB (l : List Int) (i : Nat) (c : Int) : Bool := decide (l.length = 0) || l.getD i 0 == c
theorem at_eq' (l : List Int) (i : Nat) (c : Int) (h : l.length = 0 ∨ i < l.length) : fill_at l (i : Int) c = some (atB l i c) := by
  unfold fill_at atB
  by_cases h0 : l.length = 0
  · rw [if_pos (by simp [h0])]; simp [h0]
  · rw [if_neg (by simp; simpa using h0), if_pos (by omega), rdD_nat]; simp [h0]
structure EdgeOK (e : Edges) (w h : Nat) : Prop where
  n : e.North.length = 0 ∨ e.North.length = w
  s : e.South.length = 0 ∨ e.South.length = w
  ea : e.East.length = 0 ∨ e.East.length = h
  we : e.West.length = 0 ∨ e.West.length = h
def colE (e : Edges) (h : Nat) (r : Row) (y x : Nat) : Bool := (!(decide (y = 0)) || atB e.South x (r.South.get x)) && (!(decide (y + 1 = h)) || atB e.North x (r.North.get x))
def alB (e : Edges) (w h : Nat) (r : Row) (y : Nat) : Bool := atB e.West y r.West && atB e.East y r.East && (List.range w).all (colE e h r y)
theorem allows_eq {e : Edges} {w h : Nat} (he : EdgeOK e w h) (hw : w ≤ 8) (hh : h ≤ 1000) (R : List Row) (r : Row) {y : Nat} (hy : y < h) {k : Nat} (hk : w < k) : fill_job_allows k ⟨R, w, h, e⟩ r (y : Int) = some (alB e w h r y) := by
  have hl := loop_all (F := fun k x (_ : Unit) => fill_job_allows.l0 k x ⟨R, w, h, e⟩ r (y : Int)) (S := fun _ => ()) (b := colE e h r y) (n := w) (K := 0) (r := false) (e := ()) (fun k x _ hx => by
    show fill_job_allows.l0 (k + 1) x ⟨R, w, h, e⟩ r (y : Int) = if colE e h r y x = true then fill_job_allows.l0 k ((x + 1 : Nat) : Int) ⟨R, w, h, e⟩ r (y : Int) else _
    have hwx : w64 ((x : Int) + 1) = ((x + 1 : Nat) : Int) := by rw [w64_id (by omega) (by omega)]; rfl
    have hwh : w64 ((h : Int) - 1) = ((h - 1 : Nat) : Int) := by rw [w64_id (by omega) (by omega)]; omega
    have hx8 : 0 ≤ (x : Int) ∧ (x : Int) < 8 := by omega
    have hS := at_eq' e.South x (r.South.get x) (he.s.imp id (fun h => by omega))
    have hN := at_eq' e.North x (r.North.get x) (he.n.imp id (fun h => by omega))
    rw [fill_job_allows.l0, if_pos (by simpa using hx), hwx, hwh]
    simp only [if_pos hx8, hS, hN, Option.bind_some]
    have e1 : ((y : Int) == ((h - 1 : Nat) : Int)) = decide (y + 1 = h) := by
      rw [Bool.eq_iff_iff]; simp; omega
    have e0 : ((y : Int) == 0) = decide (y = 0) := by rw [Bool.eq_iff_iff]; simp
    rw [e1, e0]
    unfold colE
    cases decide (y = 0) <;> cases decide (y + 1 = h) <;> cases atB e.South x (r.South.get x) <;> cases atB e.North x (r.North.get x) <;> simp) (fun k => by
    show fill_job_allows.l0 (k + 1) w ⟨R, w, h, e⟩ r (y : Int) = _
    rw [fill_job_allows.l0, if_neg (by simp)]) k (by omega)
  have h0 : fill_job_allows.l0 k 0 ⟨R, w, h, e⟩ r (y : Int) = some (if (List.range w).all (colE e h r y) = true then .inr () else .inl false) := hl
  unfold fill_job_allows alB
  rw [at_eq' e.West y r.West (he.we.imp id (fun h => by omega)), at_eq' e.East y r.East (he.ea.imp id (fun h => by omega)), h0]
  simp only [Option.bind_some]
  cases atB e.West y r.West <;> cases atB e.East y r.East <;> cases (List.range w).all (colE e h r y) <;> simp [sumb]
end Gp
set_option linter.unusedVariables false
set_option linter.unusedSimpArgs false
namespace Gp
open Gw Gq
/-! the whole function -/
def sidesB (e : Edges) (w h : Int) : Bool := (decide (e.North.length = 0) || decide ((e.North.length : Int) = w)) && (decide (e.South.length = 0) || decide ((e.South.length : Int) = w)) && (decide (e.East.length = 0) || decide ((e.East.length : Int) = h)) && (decide (e.West.length = 0) || decide ((e.West.length : Int) = h))
theorem begin_l0 (e : Edges) (w h : Int) (k : Nat) : fill_begin.l0 (k + 5) 0 w h e = some (if sidesB e w h = true then .inr () else .inl (none, 2)) := by
  have hside : ∀ (l : List Int) (n : Int), ((((l.length : Int) != 0) && ((l.length : Int) != n)) = !(decide (l.length = 0) || decide ((l.length : Int) = n))) := fun l n => by
    rw [Bool.eq_iff_iff]; simp
  have h1 : w64 (0 + 1) = 1 := by rw [w64_id (by omega) (by omega)]; rfl
  have h2 : w64 (1 + 1) = 2 := by rw [w64_id (by omega) (by omega)]; rfl
  have h3 : w64 (2 + 1) = 3 := by rw [w64_id (by omega) (by omega)]; rfl
  have h4 : w64 (3 + 1) = 4 := by rw [w64_id (by omega) (by omega)]; rfl
  unfold sidesB
  rw [fill_begin.l0, if_pos (by simp), if_pos (by simp), show rdD [(S_side_n.mk e.North w), (S_side_n.mk e.South w), (S_side_n.mk e.East h), (S_side_n.mk e.West h)] 0 z_S_side_n = S_side_n.mk e.North w from rfl, h1, hside]
  cases ha : (decide (e.North.length = 0) || decide ((e.North.length : Int) = w))
  · simp
  rw [if_neg (by simp), fill_begin.l0, if_pos (by simp), if_pos (by simp), show rdD [(S_side_n.mk e.North w), (S_side_n.mk e.South w), (S_side_n.mk e.East h), (S_side_n.mk e.West h)] 1 z_S_side_n = S_side_n.mk e.South w from rfl, h2, hside]
  cases hb : (decide (e.South.length = 0) || decide ((e.South.length : Int) = w))
  · simp
  rw [if_neg (by simp), fill_begin.l0, if_pos (by simp), if_pos (by simp), show rdD [(S_side_n.mk e.North w), (S_side_n.mk e.South w), (S_side_n.mk e.East h), (S_side_n.mk e.West h)] 2 z_S_side_n = S_side_n.mk e.East h from rfl, h3, hside]
  cases hc : (decide (e.East.length = 0) || decide ((e.East.length : Int) = h))
  · simp
  rw [if_neg (by simp), fill_begin.l0, if_pos (by simp), if_pos (by simp), show rdD [(S_side_n.mk e.North w), (S_side_n.mk e.South w), (S_side_n.mk e.East h), (S_side_n.mk e.West h)] 3 z_S_side_n = S_side_n.mk e.West h from rfl, h4, hside]
  cases hd : (decide (e.West.length = 0) || decide ((e.West.length : Int) = h))
  · simp
  rw [if_neg (by simp), fill_begin.l0, if_neg (by simp)]
  simp
theorem max_pow {n w : Nat} (h : fewB n w = true) : n ^ w ≤ 5000 := by
  unfold fewB at h
  rw [decide_eq_true_eq] at h
  exact Nat.le_trans (Nat.pow_le_pow_left (Nat.le_max_left n 1) w) h
theorem allR_len (set : List Tile) (w : Nat) : (allR set w).length ≤ set.length ^ w := by
  unfold allR; rw [List.length_map]; exact rowsL_len set w []
end Gp
set_option linter.unusedVariables false
set_option linter.unusedSimpArgs false
namespace Gp
open Gw Gq
/-! ### rows and patterns -/
theorem mem_rowsL0 (set : List Tile) : ∀ (n : Nat) (pre c : List Nat), c ∈ rowsL set n pre ↔ c.take pre.length = pre ∧ c.length = pre.length + n ∧ ∀ j, pre.length ≤ j → j < c.length → c.getD j 0 < set.length ∧ follows set (c.take j) (c.getD j 0) = true
  | 0, pre, c => by
    rw [rowsL, List.mem_singleton]
    constructor
    · intro h; subst h; exact ⟨List.take_length, rfl, fun j h1 h2 => by omega⟩
    · rintro ⟨h1, h2, _⟩
      rw [← h1, List.take_of_length_le (by omega)]
  | n + 1, pre, c => by
    rw [rowsL, List.mem_flatMap]
    constructor
    · rintro ⟨i, hi, hc⟩
      rw [List.mem_filter, List.mem_range] at hi
      obtain ⟨h1, h2, h3⟩ := (mem_rowsL0 set n (pre ++ [i]) c).1 hc
      rw [List.length_append, List.length_singleton] at h1 h2 h3
      have hp : c.take pre.length = pre := by
        have : c.take pre.length = (c.take (pre.length + 1)).take pre.length := by rw [List.take_take, Nat.min_eq_left (by omega)]
        rw [this, h1]; simp
      refine ⟨hp, by omega, fun j hj1 hj2 => ?_⟩
      by_cases e : j = pre.length
      · subst e
        have hg : c.getD pre.length 0 = i := by
          have h5 : (c.take (pre.length + 1))[pre.length]? = some i := by rw [h1]; simp
          rw [List.getElem?_take, if_pos (by omega)] at h5
          rw [List.getD_eq_getElem?_getD, h5]; rfl
        rw [hg, hp]; exact hi
      · exact h3 j (by omega) hj2
    · rintro ⟨h1, h2, h3⟩
      have hlt : pre.length < c.length := by omega
      obtain ⟨h4, h5⟩ := h3 pre.length (Nat.le_refl _) hlt
      rw [h1] at h5
      refine ⟨c.getD pre.length 0, ?_, (mem_rowsL0 set n _ c).2 ⟨?_, by simp; omega, fun j hj1 hj2 => h3 j (by simp at hj1; omega) hj2⟩⟩
      · rw [List.mem_filter, List.mem_range]; exact ⟨h4, h5⟩
      · rw [List.length_append, List.length_singleton, List.take_add_one, h1, List.getElem?_eq_getElem hlt]
        simp [List.getElem?_eq_getElem hlt]
structure RowOK (set : List Tile) (w : Nat) (c : List Nat) : Prop where
  len : c.length = w
  lt : ∀ x, x < w → c.getD x 0 < set.length
  adj : ∀ x, x + 1 < w → (tat set (c.getD x 0)).E = (tat set (c.getD (x + 1) 0)).W
theorem follows_take (set : List Tile) (c : List Nat) (j : Nat) (hj : j < c.length) (i : Nat) : follows set (c.take (j + 1)) i = ((tat set (c.getD j 0)).E == (tat set i).W) := by
  unfold follows
  have : (c.take (j + 1)).getLast? = some (c.getD j 0) := by
    have e : c.take (j + 1) = c.take j ++ [c[j]] := by rw [List.take_add_one, List.getElem?_eq_getElem hj]; rfl
    rw [e, List.getLast?_append]
    simp [List.getElem?_eq_getElem hj]
  rw [this]
theorem mem_rowsL (set : List Tile) (w : Nat) (c : List Nat) : c ∈ rowsL set w [] ↔ RowOK set w c := by
  rw [mem_rowsL0]
  constructor
  · rintro ⟨_, h2, h3⟩
    have hl : c.length = w := by simpa using h2
    refine ⟨hl, fun x hx => (h3 x (by simp) (by omega)).1, fun x hx => ?_⟩
    have := (h3 (x + 1) (by simp) (by omega)).2
    rw [follows_take set c x (by omega)] at this
    exact eq_of_beq this
  · rintro ⟨h1, h2, h3⟩
    refine ⟨by simp, by simp [h1], fun j _ hj => ⟨h2 j (by omega), ?_⟩⟩
    cases j with
    | zero => simp [follows]
    | succ j => rw [follows_take set c j (by omega), h3 j (by omega)]; simp
def sideN (set : List Tile) (c : List Nat) : List Int := c.map fun i => (tat set i).N
def sideS (set : List Tile) (c : List Nat) : List Int := c.map fun i => (tat set i).S
end Gp
set_option linter.unusedVariables false
set_option linter.unusedSimpArgs false
namespace Gp
open Gw Gq
/-! ### squares -/
def e0 : Edges := Edges.mk ([] : List Int) ([] : List Int) ([] : List Int) ([] : List Int)
end Gp
set_option linter.unusedVariables false
set_option linter.unusedSimpArgs false
namespace Gp
open Gw Gq
/-! ### tori -/
end Gp
set_option linter.unusedVariables false
set_option linter.unusedSimpArgs false
namespace Gp
open Gw Gq
/-! tori and patterns -/
end Gp
set_option linter.unusedVariables false
set_option linter.unusedSimpArgs false
namespace Gp
open Gw Gq
end Gp
set_option linter.unusedVariables false
set_option linter.unusedSimpArgs false
namespace Gp
open Gw Gq
/-! ### three tiles: a torus, or no square of side four -/
/-! masks of a set -/
def hR (set : List Tile) (i j : Nat) : Bool := decide (i < set.length ∧ j < set.length ∧ (tat set i).E = (tat set j).W)
end Gp
set_option linter.unusedVariables false
set_option linter.unusedSimpArgs false
namespace Gp
open Gw Gq
/-! ### the least torus -/
/-! ### the decision -/
end Gp
set_option linter.unusedVariables false
set_option linter.unusedSimpArgs false
namespace Gp
open Gw Gq
/-! ### fillings as grids; turned and renamed sets -/
end Gp
set_option linter.unusedVariables false
set_option linter.unusedSimpArgs false
namespace Gp
open Gw Gq
/-! ### a set with one tile more -/
end Gp
set_option linter.unusedVariables false
set_option linter.unusedSimpArgs false
namespace Gp
open Gw Gq
/-! ### torus.Find -/
theorem power_l0 (b n : Nat) (hb : b ≤ 1000000) (hn : n ≤ 1000) : ∀ (d i k : Nat), i + d = n → d < k → ref02_Power.l0 k (min (b ^ i) 1000000 : Nat) i b n = some ((min (b ^ n) 1000000 : Nat) : Int)
  | 0, i, k, e, hk => by
    obtain ⟨k, rfl⟩ : ∃ m, k = m + 1 := ⟨k - 1, by omega⟩
    have : i = n := by omega
    subst this
    rw [ref02_Power.l0, if_neg (by simp)]
  | d + 1, i, k, e, hk => by
    obtain ⟨k, rfl⟩ : ∃ m, k = m + 1 := ⟨k - 1, by omega⟩
    have ih := power_l0 b n hb hn d (i + 1) k (by omega) (by omega)
    have hwi : w64 ((i : Int) + 1) = ((i + 1 : Nat) : Int) := by rw [w64_id (by omega) (by omega)]; rfl
    have hm : (min (b ^ i) 1000000) * b ≤ 1000000 * 1000000 := Nat.mul_le_mul (Nat.min_le_right _ _) hb
    have hmul : ((min (b ^ i) 1000000 : Nat) : Int) * (b : Int) = (((min (b ^ i) 1000000) * b : Nat) : Int) := (Int.natCast_mul _ _).symm
    have key : min (min (b ^ i) 1000000 * b) 1000000 = min (b ^ (i + 1)) 1000000 := by
      rw [Nat.pow_succ]
      by_cases hx : b ^ i ≤ 1000000
      · rw [Nat.min_eq_left hx]
      · rw [Nat.min_eq_right (by omega : 1000000 ≤ b ^ i)]
        have h0 : 0 < b := by
          rcases Nat.eq_zero_or_pos b with h0 | h0
          · exfalso; subst h0
            have := Nat.pow_le_pow_left (by omega : 0 ≤ 1) i
            rw [Nat.one_pow] at this; omega
          · exact h0
        have a1 : 1000000 ≤ 1000000 * b := Nat.le_mul_of_pos_right _ h0
        have a2 : b ^ i ≤ b ^ i * b := Nat.le_mul_of_pos_right _ h0
        rw [Nat.min_eq_right a1, Nat.min_eq_right (by omega)]
    obtain ⟨M, hM⟩ : ∃ M, min (b ^ i) 1000000 * b = M := ⟨_, rfl⟩
    rw [hM] at hm hmul key
    have hmin : minI (M : Int) 1000000 = ((min (b ^ (i + 1)) 1000000 : Nat) : Int) := by
      rw [← key]; unfold minI; split <;> omega
    rw [ref02_Power.l0, if_pos (by simp; omega), hmul, w64_id (n := (M : Int)) (by omega) (by omega), hmin, hwi]
    exact ih
theorem power_eq (b n : Nat) (hb : b ≤ 1000000) (hn : n ≤ 1000) {k : Nat} (hk : n < k) : ref02_Power k b n = some ((min (b ^ n) 1000000 : Nat) : Int) := by
  have := power_l0 b n hb hn n 0 k (by omega) hk
  rw [Nat.pow_zero] at this
  have this : ref02_Power.l0 k 1 0 b n = _ := this
  unfold ref02_Power
  rw [this]; rfl
theorem great_eq (s : List Tile) (hl : s.length ≤ 1000) {w : Nat} (hw : 1 ≤ w ∧ w ≤ 60) {k : Nat} (hk : 1000 < k) : ref02_Great k s w = some (!fewB s.length w) := by
  unfold ref02_Great
  rw [power_eq s.length w (by omega) (by omega) (by omega), Option.bind_some]
  congr 1
  unfold fewB
  by_cases h : (max s.length 1) ^ w ≤ 5000
  · rw [decide_eq_true h]
    have : s.length ^ w ≤ (max s.length 1) ^ w := Nat.pow_le_pow_left (by omega) w
    exact decide_eq_false (by omega)
  · rw [decide_eq_false h]
    have : s.length ^ w = (max s.length 1) ^ w := by
      rcases Nat.eq_zero_or_pos s.length with h0 | h0
      · exfalso; rw [h0] at h; exact h (by simp)
      · rw [show max s.length 1 = s.length by omega]
    exact decide_eq_true (by omega)
/-! multiples -/
end Gp
set_option linter.unusedVariables false
set_option linter.unusedSimpArgs false
namespace Gp
open Gw Gq
/-! ### a torus is no higher than there are words -/
end Gp
set_option linter.unusedVariables false
set_option linter.unusedSimpArgs false
namespace Gp
open Gw Gq
/-! ### the reference's colours -/
def atS (l : List Int) (n : Int) : Int := if n ∈ l then (l.idxOf n : Int) else -1
theorem at_l0 (l : List Int) (n : Int) (hl : l.length ≤ 1000000) : ∀ (d i k : Nat), i + d = l.length → d < k → ref02_at.l0 k i l n = some (if n ∈ l.drop i then .inl (((i + (l.drop i).idxOf n : Nat)) : Int) else .inr ())
  | 0, i, k, e, hk => by
    obtain ⟨k, rfl⟩ : ∃ m, k = m + 1 := ⟨k - 1, by omega⟩
    rw [ref02_at.l0, if_neg (by simp; omega), List.drop_eq_nil_of_le (by omega)]; rfl
  | d + 1, i, k, e, hk => by
    obtain ⟨k, rfl⟩ : ∃ m, k = m + 1 := ⟨k - 1, by omega⟩
    have hlt : i < l.length := by omega
    have hwi : w64 ((i : Int) + 1) = ((i + 1 : Nat) : Int) := by rw [w64_id (by omega) (by omega)]; rfl
    rw [ref02_at.l0, if_pos (by simpa using hlt), if_pos (by omega), rdD_get hlt, hwi, at_l0 l n hl d (i + 1) k (by omega) (by omega), List.drop_eq_getElem_cons hlt]
    by_cases he : l[i] = n
    · rw [if_pos (by simpa using he), if_pos (by rw [he]; exact List.mem_cons_self ..)]
      rw [he, List.idxOf_cons_self]; rfl
    · rw [if_neg (by simpa using he)]
      have hm : n ∈ l[i] :: l.drop (i + 1) ↔ n ∈ l.drop (i + 1) := by
        rw [List.mem_cons]
        exact ⟨fun h => h.resolve_left (fun e => he e.symm), .inr⟩
      by_cases hd : n ∈ l.drop (i + 1)
      · rw [if_pos hd, if_pos (hm.2 hd), List.idxOf_cons, show (l[i] == n) = false by simpa using he]
        simp only [cond_false]
        congr 2; omega
      · rw [if_neg hd, if_neg (fun h => hd (hm.1 h))]
theorem at_eq (l : List Int) (n : Int) (hl : l.length ≤ 1000000) {k : Nat} (hk : l.length < k) : ref02_at k l n = some (atS l n) := by
  have := at_l0 l n hl l.length 0 k (by omega) hk
  have this : ref02_at.l0 k 0 l n = _ := this
  unfold ref02_at atS
  rw [this, List.drop_zero]
  by_cases h : n ∈ l
  · rw [if_pos h, if_pos h]; simp [sumb]
  · rw [if_neg h, if_neg h]; rfl
def withS (l : List Int) (n : Int) : List Int := if n ∈ l then l else l ++ [n]
theorem with_eq (l : List Int) (n : Int) (hl : l.length ≤ 1000000) {k : Nat} (hk : l.length < k) : ref02_with k l n = some (withS l n) := by
  unfold ref02_with withS
  rw [at_eq l n hl hk, Option.bind_some]
  unfold atS
  by_cases h : n ∈ l
  · rw [if_pos h, if_neg (by simp), if_pos h]; rfl
  · rw [if_neg h, if_pos (by decide), if_pos (by simp; omega), if_neg h]; rfl
theorem withS_len (l : List Int) (n : Int) : (withS l n).length ≤ l.length + 1 := by unfold withS; split <;> simp
theorem mem_withS (l : List Int) (n x : Int) : x ∈ withS l n ↔ x ∈ l ∨ x = n := by
  unfold withS
  split
  · rename_i h; exact ⟨.inl, fun e => e.elim id (fun e => e ▸ h)⟩
  · simp
theorem withS_nodup {l : List Int} (n : Int) (h : l.Nodup) : (withS l n).Nodup := by
  unfold withS
  split
  · exact h
  · rename_i hn
    rw [List.nodup_append]
    exact ⟨h, List.nodup_cons.2 ⟨by simp, List.nodup_nil⟩, fun a ha b hb => by
      rw [List.mem_singleton] at hb; intro e; exact hn (by rw [← hb, ← e]; exact ha)⟩
def colS2 (l : List Int) (t : Tile) : List Int := withS (withS l t.N) t.S
def colsS (s : List Tile) : List Int := s.foldl colS2 []
theorem colours_eq (s : List Tile) (hl : s.length ≤ 2000) {k : Nat} (hk : 10000 < k) : ref02_Colours k s = some (colsS s) := by
  have := loop_list (F := fun k i (l : List Int) => ref02_Colours.l0 k l i s) s colS2 5000 (fun i l => l.length ≤ 2 * i) id (fun k i l h hk hP => by
    have hwi : w64 ((i : Int) + 1) = ((i + 1 : Nat) : Int) := by rw [w64_id (by omega) (by omega)]; rfl
    have h1 := withS_len l s[i].N
    have h2 := withS_len (withS l s[i].N) s[i].S
    constructor
    · show ref02_Colours.l0 (k + 1) l i s = _
      rw [ref02_Colours.l0, if_pos (by simpa using h), if_pos (by omega), rdD_get h, with_eq l _ (by omega) (by omega), Option.bind_some, with_eq _ _ (by omega) (by omega), Option.bind_some, hwi]; rfl
    · unfold colS2; omega) (fun k l _ => by
    show ref02_Colours.l0 (k + 1) l s.length s = _
    rw [ref02_Colours.l0, if_neg (by simp)]; rfl) [] (by simp) k (by omega)
  have this : ref02_Colours.l0 k [] 0 s = _ := this
  unfold ref02_Colours
  rw [this]; rfl
theorem colsS_spec (s : List Tile) : (colsS s).Nodup ∧ (colsS s).length ≤ 2 * s.length ∧ ∀ c, c ∈ colsS s ↔ ∃ t ∈ s, c = t.N ∨ c = t.S := by
  have key : ∀ (r : List Tile) (l : List Int), l.Nodup → (r.foldl colS2 l).Nodup ∧ (r.foldl colS2 l).length ≤ l.length + 2 * r.length ∧ ∀ c, c ∈ r.foldl colS2 l ↔ c ∈ l ∨ ∃ t ∈ r, c = t.N ∨ c = t.S := by
    intro r
    induction r with
    | nil => intro l h; exact ⟨h, by simp, fun c => by simp⟩
    | cons t r ih =>
      intro l h
      obtain ⟨a, b, c⟩ := ih (colS2 l t) (withS_nodup _ (withS_nodup _ h))
      have h1 := withS_len l t.N
      have h2 := withS_len (withS l t.N) t.S
      refine ⟨a, ?_, fun x => ?_⟩
      · rw [List.foldl_cons, List.length_cons]; unfold colS2 at b ⊢; omega
      · rw [List.foldl_cons, c x]
        unfold colS2
        rw [mem_withS, mem_withS]
        simp only [List.mem_cons, exists_eq_or_imp]
        constructor
        · rintro (((h | h) | h) | h)
          · exact .inl h
          · exact .inr (.inl (.inl h))
          · exact .inr (.inl (.inr h))
          · exact .inr (.inr h)
        · rintro (h | (h | h) | h)
          · exact .inl (.inl (.inl h))
          · exact .inl (.inl (.inr h))
          · exact .inl (.inr h)
          · exact .inr h
  obtain ⟨a, b, c⟩ := key s [] List.nodup_nil
  exact ⟨a, by simpa [colsS] using b, fun x => by rw [colsS, c x]; simp⟩
theorem light_some (s : List Tile) (hl : s.length ≤ 1000) {w : Nat} (hw : w ≤ 1000) {k : Nat} (hk : 10000 < k) : ref02_Light k s w = some (decide (min ((colsS s).length ^ w) 1000000 ≤ 1500) && decide (min (s.length ^ w) 1000000 ≤ 40000)) := by
  obtain ⟨_, hc, _⟩ := colsS_spec s
  unfold ref02_Light
  rw [colours_eq s (by omega) hk, Option.bind_some, power_eq (colsS s).length w (by omega) hw (by omega), Option.bind_some]
  have d1 : ∀ a b : Nat, decide (((a : Nat) : Int) ≤ ((b : Nat) : Int)) = decide (a ≤ b) := fun a b => by
    by_cases h : a ≤ b
    · rw [decide_eq_true h, decide_eq_true (by omega)]
    · rw [decide_eq_false h, decide_eq_false (by omega)]
  have e1 := d1 (min ((colsS s).length ^ w) 1000000) 1500
  have e2 := d1 (min (s.length ^ w) 1000000) 40000
  have e1' : decide (((min ((colsS s).length ^ w) 1000000 : Nat) : Int) ≤ 1500) = decide (min ((colsS s).length ^ w) 1000000 ≤ 1500) := e1
  have e2' : decide (((min (s.length ^ w) 1000000 : Nat) : Int) ≤ 40000) = decide (min (s.length ^ w) 1000000 ≤ 40000) := e2
  rw [e1']
  cases h : decide (min ((colsS s).length ^ w) 1000000 ≤ 1500)
  · rfl
  · rw [if_pos rfl, power_eq s.length w (by omega) hw (by omega), Option.bind_some, e2']; rfl
/-! ### squares fall -/
end Gp
set_option linter.unusedVariables false
set_option linter.unusedSimpArgs false
namespace Gp
open Gw Gq
/-! ### the reference's rows -/
end Gp
set_option linter.unusedVariables false
set_option linter.unusedSimpArgs false
namespace Gp
open Gw Gq
/-! ### the reference's tori -/
end Gp
set_option linter.unusedVariables false
set_option linter.unusedSimpArgs false
namespace Gp
open Gw Gq
/-! program and reference -/
end Gp
set_option linter.unusedVariables false
set_option linter.unusedSimpArgs false
namespace Gp
open Gw Gq
theorem colsS_col (s : List Tile) : ∀ i, i < s.length → (tat s i).S ∈ colsS s ∧ (tat s i).N ∈ colsS s := fun i hi => by
  obtain ⟨_, _, h3⟩ := colsS_spec s
  have : tat s i ∈ s := by unfold tat; rw [List.getD_eq_getElem?_getD, List.getElem?_eq_getElem hi]; exact List.getElem_mem _
  exact ⟨(h3 _).2 ⟨_, this, .inr rfl⟩, (h3 _).2 ⟨_, this, .inl rfl⟩⟩
/-! ### the reference's least torus -/
end Gp
set_option linter.unusedVariables false
set_option linter.unusedSimpArgs false
namespace Gp
open Gw Gq
/-! ### the reference's first filling -/
end Gp
set_option linter.unusedVariables false
set_option linter.unusedSimpArgs false
namespace Gp
open Gw Gq
def fitC (s : List Tile) (w h : Nat) (e : Edges) (c : List Nat) (y : Nat) : Bool := alB e w h (mkR s c) y
end Gp
set_option linter.unusedVariables false
set_option linter.unusedSimpArgs false
namespace Gp
open Gw Gq
theorem edge_of {e : Edges} {w h : Nat} (he : sidesB e w h = true) : EdgeOK e w h := by
  unfold sidesB at he
  simp only [Bool.and_eq_true, Bool.or_eq_true, decide_eq_true_eq] at he
  exact ⟨he.1.1.1.imp id (fun h => by omega), he.1.1.2.imp id (fun h => by omega), he.1.2.imp id (fun h => by omega), he.2.imp id (fun h => by omega)⟩
end Gp
set_option linter.unusedVariables false
set_option linter.unusedSimpArgs false
namespace Gp
open Gw Gq
theorem pow_le_of {b m w N : Nat} (hw : w ≤ m) (hb : b ^ m ≤ N) (hN : 1 ≤ N) : b ^ w ≤ N := by
  rcases Nat.eq_zero_or_pos b with h0 | h0
  · rw [h0]
    rcases Nat.eq_zero_or_pos w with h1 | h1
    · rw [h1]; simpa using hN
    · rw [Nat.zero_pow h1]; omega
  · exact Nat.le_trans (Nat.pow_le_pow_right h0 hw) hb
end Gp
set_option linter.unusedVariables false
set_option linter.unusedSimpArgs false
namespace Gp
open Gw Gq
theorem awake02_ok (k : Nat) : law02_awake (k + 300) = some true := by kernel_rfl
/-! ### the first filling of a rectangle -/
theorem fault_eq {s : List Tile} (hl : s.length ≤ 9223372036854775807) (w h : Int) (e : Edges) {k : Nat} (hk : 2002 < k) : ref02_Fault k s w h e = some (if validT s = true then (if (1 ≤ w ∧ w ≤ 8 ∧ 1 ≤ h ∧ h ≤ 60) then (if sidesB e w h = true then 0 else 2) else 2) else 1) := by
  have hs : ∀ (l : List Int) (n : Int), (((l.length : Int) == 0) || ((l.length : Int) == n)) = (decide (l.length = 0) || decide ((l.length : Int) = n)) := fun l n => by
    rw [Bool.eq_iff_iff]; simp
  unfold ref02_Fault ref02_side
  rw [valid01 s hk hl, Option.bind_some]
  cases hv : validT s
  · rfl
  rw [if_neg (by decide), if_pos rfl]
  by_cases hr : 1 ≤ w ∧ w ≤ 8 ∧ 1 ≤ h ∧ h ≤ 60
  rotate_left
  · rw [if_pos (by simp; omega), if_neg hr]
  rw [if_neg (by simp; omega), if_pos hr, hs, hs, hs, hs]
  unfold sidesB
  cases (decide (e.North.length = 0) || decide ((e.North.length : Int) = w)) <;> cases (decide (e.South.length = 0) || decide ((e.South.length : Int) = w)) <;> cases (decide (e.West.length = 0) || decide ((e.West.length : Int) = h)) <;> cases (decide (e.East.length = 0) || decide ((e.East.length : Int) = h)) <;> rfl
theorem heavy02 (s : List Tile) (hl : s.length ≤ 1000) {w : Nat} (hw : w ≤ 1000) {k : Nat} (hk : 10000 < k) : ∃ b, law02_heavy k s w = some b ∧ (b = false → s.length ≤ 60 ∧ (colsS s).length ^ w ≤ 1500 ∧ s.length ^ w ≤ 40000) := by
  unfold law02_heavy
  by_cases h : s.length ≤ 60
  · have h0 : decide ((s.length : Int) > 60) = false := decide_eq_false (by omega)
    rw [h0, if_neg (by decide), light_some s hl hw hk]
    refine ⟨_, rfl, fun hb => ?_⟩
    rw [Bool.not_eq_false', Bool.and_eq_true, decide_eq_true_eq, decide_eq_true_eq] at hb
    omega
  · have h0 : decide ((s.length : Int) > 60) = true := decide_eq_true (by omega)
    rw [h0, if_pos rfl]
    exact ⟨true, rfl, fun h => by cases h⟩
end Gp
set_option linter.unusedVariables false
set_option linter.unusedSimpArgs false
namespace Gq
open Gw
/-! ### sums, and the numbers of ways up and down -/
def sm {α : Type} (l : List α) (f : α → Nat) : Nat := (l.map f).sum
theorem sm_nil {α : Type} (f : α → Nat) : sm [] f = 0 := rfl
theorem sm_cons {α : Type} (a : α) (l : List α) (f : α → Nat) : sm (a :: l) f = f a + sm l f := by simp [sm]
theorem sm_congr {α : Type} {l : List α} {f g : α → Nat} (h : ∀ x ∈ l, f x = g x) : sm l f = sm l g := by
  unfold sm; rw [List.map_congr_left h]
theorem sm_map {α β : Type} (g : α → β) (f : β → Nat) (l : List α) : sm (l.map g) f = sm l fun x => f (g x) := by
  simp [sm, List.map_map, Function.comp_def]
theorem sm_zero {α : Type} (l : List α) : sm l (fun _ => 0) = 0 := by
  induction l with
  | nil => rfl
  | cons a l ih => rw [sm_cons, ih]
theorem sm_add {α : Type} (l : List α) (f g : α → Nat) : sm l (fun x => f x + g x) = sm l f + sm l g := by
  induction l with
  | nil => rfl
  | cons a l ih => rw [sm_cons, sm_cons, sm_cons, ih]; omega
theorem sm_mul {α : Type} (l : List α) (f : α → Nat) (c : Nat) : sm l (fun x => c * f x) = c * sm l f := by
  induction l with
  | nil => rfl
  | cons a l ih => rw [sm_cons, sm_cons, ih, Nat.mul_add]
theorem sm_swap {α β : Type} (a : List α) (b : List β) (f : α → β → Nat) : sm a (fun x => sm b fun y => f x y) = sm b fun y => sm a fun x => f x y := by
  induction a with
  | nil => rw [sm_nil]; exact (sm_zero b).symm
  | cons x a ih =>
    rw [sm_cons, ih, ← sm_add]
    exact sm_congr fun y _ => (sm_cons x a fun x => f x y).symm
theorem sm_once {β : Type} [DecidableEq β] : ∀ (l : List β), l.Nodup → ∀ (x : β) (v : Nat), x ∈ l → sm l (fun y => if y = x then v else 0) = v
  | [], _, x, v, h => by cases h
  | a :: l, hn, x, v, h => by
    rw [sm_cons]
    have hn := List.nodup_cons.1 hn
    by_cases ha : a = x
    · subst ha
      rw [if_pos rfl, sm_congr (g := fun _ => 0) (fun y hy => if_neg (fun e : y = a => hn.1 (e ▸ hy))), sm_zero]; omega
    · rw [if_neg ha, sm_once l hn.2 x v ((List.mem_cons.1 h).resolve_left (fun e => ha e.symm))]; omega
def upC {α κ : Type} [DecidableEq κ] (B : List α) (S N : α → κ) (ft : α → Nat → Bool) (h : Nat) : Nat → κ → Nat
  | 0, _ => 1
  | n + 1, x => sm B fun c => if (decide (S c = x) && ft c (h - 1 - n)) = true then upC B S N ft h n (N c) else 0
def dnC {α κ : Type} [DecidableEq κ] (B : List α) (S N : α → κ) (ft : α → Nat → Bool) : Nat → κ → Nat
  | 0, _ => 1
  | y + 1, x => sm B fun c => if (decide (N c = x) && ft c y) = true then dnC B S N ft y (S c) else 0
def midC {α κ : Type} [DecidableEq κ] (B : List α) (S N : α → κ) (ft : α → Nat → Bool) (h y : Nat) : Nat := sm B fun c => if ft c y = true then dnC B S N ft y (S c) * upC B S N ft h (h - 1 - y) (N c) else 0
theorem mid_succ {α κ : Type} [DecidableEq κ] (B : List α) (S N : α → κ) (ft : α → Nat → Bool) {h y : Nat} (hy : y + 1 < h) : midC B S N ft h (y + 1) = midC B S N ft h y := by
  obtain ⟨m, hm⟩ : ∃ m, h - 1 - (y + 1) = m := ⟨_, rfl⟩
  have e1 : h - 1 - y = m + 1 := by omega
  have e2 : h - 1 - m = y + 1 := by omega
  unfold midC
  rw [hm, e1]
  have l : ∀ c, (if ft c (y + 1) = true then dnC B S N ft (y + 1) (S c) * upC B S N ft h m (N c) else 0) = sm B fun q => if (ft q y && (ft c (y + 1) && decide (S c = N q))) = true then dnC B S N ft y (S q) * upC B S N ft h m (N c) else 0 := fun c => by
    cases ft c (y + 1)
    · rw [if_neg (by decide)]
      rw [sm_congr (g := fun _ => 0) (fun q _ => if_neg (by simp)), sm_zero]
    · rw [if_pos rfl, dnC, Nat.mul_comm, ← sm_mul]
      refine sm_congr fun q _ => ?_
      by_cases he : S c = N q
      · have : N q = S c := he.symm
        cases ft q y <;> simp [he, Nat.mul_comm]
      · have : ¬ N q = S c := fun e => he e.symm
        cases ft q y <;> simp [he, this]
  have r : ∀ q, (if ft q y = true then dnC B S N ft y (S q) * upC B S N ft h (m + 1) (N q) else 0) = sm B fun c => if (ft q y && (ft c (y + 1) && decide (S c = N q))) = true then dnC B S N ft y (S q) * upC B S N ft h m (N c) else 0 := fun q => by
    cases ft q y
    · rw [if_neg (by decide)]
      rw [sm_congr (g := fun _ => 0) (fun q _ => if_neg (by simp)), sm_zero]
    · rw [if_pos rfl, upC, ← sm_mul, e2]
      refine sm_congr fun c _ => ?_
      by_cases he : S c = N q
      · cases ft c (y + 1) <;> simp [he]
      · cases ft c (y + 1) <;> simp [he]
  rw [sm_congr (fun c _ => l c), sm_congr (fun q _ => r q), sm_swap]
theorem mid_const {α κ : Type} [DecidableEq κ] (B : List α) (S N : α → κ) (ft : α → Nat → Bool) {h : Nat} : ∀ y, y < h → midC B S N ft h y = midC B S N ft h 0
  | 0, _ => rfl
  | y + 1, hy => by rw [mid_succ B S N ft hy, mid_const B S N ft y (by omega)]
theorem dnC_map {α β κ : Type} [DecidableEq κ] (g : α → β) (B : List α) (S N : β → κ) (ft : β → Nat → Bool) : ∀ (y : Nat) (x : κ), dnC (B.map g) S N ft y x = dnC B (fun c => S (g c)) (fun c => N (g c)) (fun c => ft (g c)) y x
  | 0, x => rfl
  | y + 1, x => by
    rw [dnC, dnC, sm_map]
    exact sm_congr fun c _ => by rw [dnC_map g B S N ft y]
theorem dnC_key {α κ μ : Type} [DecidableEq κ] [DecidableEq μ] (B : List α) (S N : α → κ) (S' N' : α → μ) (ft : α → Nat → Bool) (hk : ∀ c ∈ B, ∀ d ∈ B, S c = N d ↔ S' c = N' d) : ∀ (y : Nat) (d : α), d ∈ B → dnC B S N ft y (S d) = dnC B S' N' ft y (S' d)
  | 0, d, _ => rfl
  | y + 1, d, hd => by
    rw [dnC, dnC]
    refine sm_congr fun c hc => ?_
    rw [dnC_key B S N S' N' ft hk y c hc]
    have : decide (N c = S d) = decide (N' c = S' d) := by
      rw [Bool.eq_iff_iff, decide_eq_true_eq, decide_eq_true_eq]
      exact ⟨fun e => ((hk d hd c hc).1 e.symm).symm, fun e => ((hk d hd c hc).2 e.symm).symm⟩
    rw [this]
theorem tot_up {α κ : Type} [DecidableEq κ] (B : List α) (S N : α → κ) (ft : α → Nat → Bool) {h : Nat} (hh : 1 ≤ h) : midC B S N ft h 0 = sm B fun c => if ft c 0 = true then upC B S N ft h (h - 1) (N c) else 0 := by
  unfold midC
  exact sm_congr fun c _ => by rw [dnC, Nat.one_mul, Nat.sub_zero]
theorem tot_dn {α κ : Type} [DecidableEq κ] (B : List α) (S N : α → κ) (ft : α → Nat → Bool) {h : Nat} (hh : 1 ≤ h) : midC B S N ft h 0 = sm B fun c => if ft c (h - 1) = true then dnC B S N ft (h - 1) (S c) else 0 := by
  rw [← mid_const B S N ft (h - 1) (by omega)]
  unfold midC
  exact sm_congr fun c _ => by rw [show h - 1 - (h - 1) = 0 by omega, upC, Nat.mul_one]
/-! ### numbers that stay below a bound -/
def sat (v : Nat) : Nat := min v 1152921504606846977
theorem sat_le (v : Nat) : sat v ≤ 1152921504606846977 := Nat.min_le_right ..
theorem sat_add (a b : Nat) : minI (w64 ((sat a : Int) + (sat b : Int))) 1152921504606846977 = ((sat (a + b) : Nat) : Int) := by
  have h1 := sat_le a
  have h2 := sat_le b
  rw [w64_id (by omega) (by omega)]
  unfold minI sat
  split <;> omega
theorem sat_pos (a : Nat) : 0 < sat a ↔ 0 < a := by unfold sat; omega
def sumV {κ : Type} (m : List (κ × Nat)) : Nat := sm m Prod.snd
def satM {κ : Type} (m : List (κ × Nat)) : List (κ × Int) := m.map fun p => (p.1, ((sat p.2 : Nat) : Int))
theorem satM_get {κ : Type} [DecidableEq κ] (x : κ) : ∀ m : List (κ × Nat), mget x 0 (satM m) = ((sat (mget x 0 m) : Nat) : Int)
  | [] => rfl
  | p :: r => by
    show (if x = p.1 then ((sat p.2 : Nat) : Int) else mget x 0 (satM r)) = _
    rw [mget]
    by_cases h : x = p.1
    · rw [if_pos h, if_pos h]
    · rw [if_neg h, if_neg h, satM_get x r]
theorem satM_put {κ : Type} [DecidableEq κ] (x : κ) (v : Nat) : ∀ m : List (κ × Nat), mput x ((sat v : Nat) : Int) (satM m) = satM (mput x v m)
  | [] => rfl
  | p :: r => by
    show (if x = p.1 then (x, ((sat v : Nat) : Int)) :: satM r else (p.1, ((sat p.2 : Nat) : Int)) :: mput x ((sat v : Nat) : Int) (satM r)) = _
    rw [mput]
    by_cases h : x = p.1
    · rw [if_pos h, if_pos h]; rfl
    · rw [if_neg h, if_neg h, satM_put x v r]; rfl
theorem sumV_put {κ : Type} [DecidableEq κ] (x : κ) (v : Nat) : ∀ m : List (κ × Nat), sumV (mput x (mget x 0 m + v) m) = sumV m + v
  | [] => by simp [mput, mget, sumV, sm]
  | p :: r => by
    rw [mput, mget]
    by_cases h : x = p.1
    · rw [if_pos h, if_pos h]
      simp only [sumV, sm_cons]; omega
    · rw [if_neg h, if_neg h]
      have := sumV_put x v r
      simp only [sumV, sm_cons] at this ⊢; omega
def addM {α κ : Type} [DecidableEq κ] (key : α → κ) (v : α → Nat) (q : α → Bool) (m : List (κ × Nat)) (a : α) : List (κ × Nat) := if (decide (0 < v a) && q a) = true then mput (key a) (mget (key a) 0 m + v a) m else m
theorem addM_get {α κ : Type} [DecidableEq κ] (key : α → κ) (v : α → Nat) (q : α → Bool) (x : κ) : ∀ (l : List α) (m : List (κ × Nat)), mget x 0 (l.foldl (addM key v q) m) = mget x 0 m + sm l fun a => if (decide (key a = x) && q a) = true then v a else 0
  | [], m => rfl
  | a :: l, m => by
    rw [List.foldl_cons, addM_get key v q x l, sm_cons]
    unfold addM
    by_cases hv : 0 < v a
    · cases q a
      · simp
      · simp only [hv, decide_true, Bool.and_true, if_true, Gq.mget_mput]
        by_cases hx : x = key a
        · subst hx; simp; omega
        · have : ¬ key a = x := fun e => hx e.symm
          simp [hx, this]
    · have h0 : v a = 0 := by omega
      simp [h0]
theorem addM_sum {α κ : Type} [DecidableEq κ] (key : α → κ) (v : α → Nat) (q : α → Bool) : ∀ (l : List α) (m : List (κ × Nat)), sumV (l.foldl (addM key v q) m) = sumV m + sm l fun a => if q a = true then v a else 0
  | [], m => rfl
  | a :: l, m => by
    rw [List.foldl_cons, addM_sum key v q l, sm_cons]
    unfold addM
    by_cases hv : 0 < v a
    · cases q a
      · simp
      · simp only [hv, decide_true, Bool.and_true, if_true, sumV_put]; omega
    · have h0 : v a = 0 := by omega
      simp [h0]
theorem foldM_sat {κ : Type} (f : Int → Int → Option Int) (hf : ∀ x v, f x v = some (minI (w64 (x + v)) 1152921504606846977)) : ∀ (m : List (κ × Nat)) (a : Nat), ((satM m).map Prod.snd).foldlM f ((sat a : Nat) : Int) = some ((sat (a + sumV m) : Nat) : Int)
  | [], a => rfl
  | p :: r, a => by
    show ((f ((sat a : Nat) : Int) ((sat p.2 : Nat) : Int)).bind fun b => ((satM r).map Prod.snd).foldlM f b) = _
    rw [hf, sat_add, Option.bind_some, foldM_sat f hf r, Nat.add_assoc]
    rfl
theorem mapfold_sat {κ : Type} (f : Int → Int → Option Int) (hf : ∀ x v, f x v = some (minI (w64 (x + v)) 1152921504606846977)) (m : List (κ × Nat)) : mapfold (satC 1152921504606846977) f 0 ((satM m).map Prod.snd) = some ((sat (sumV m) : Nat) : Int) := by
  unfold mapfold
  have : satC 1152921504606846977 0 ((satM m).map Prod.snd) = true := by
    unfold satC
    rw [Bool.and_eq_true]
    refine ⟨by decide, ?_⟩
    rw [List.all_eq_true]
    intro v hv
    obtain ⟨p, hp, rfl⟩ := List.mem_map.1 hv
    obtain ⟨q, hq, rfl⟩ := List.mem_map.1 hp
    have := sat_le q.2
    exact decide_eq_true (by show (0 : Int) ≤ ((sat q.2 : Nat) : Int) ∧ ((sat q.2 : Nat) : Int) ≤ _; omega)
  rw [if_pos this]
  have := foldM_sat f hf m 0
  rw [Nat.zero_add] at this
  exact this
end Gq
set_option linter.unusedVariables false
set_option linter.unusedSimpArgs false
namespace Gp
open Gw Gq
/-! ### the program's count -/
theorem mod_pos (x : Int) (n : Nat) (hx : x = ((sat n : Nat) : Int)) : decide (x > 0) = decide (0 < n) := by
  have := sat_pos n
  rw [hx, Bool.eq_iff_iff, decide_eq_true_eq, decide_eq_true_eq]; omega
theorem count_l2 {e : Edges} {w h : Nat} (he : EdgeOK e w h) (hw : w ≤ 8) (hh : h ≤ 1000) (R : List Row) (hR : R.length ≤ 1000000) {y : Nat} (hy : y < h) (E : List (A8_Int × Nat)) (hE : 0 < y → ∀ x, mget x 0 E = dnC R Row.South Row.North (alB e w h) y x) {k : Nat} (hk : R.length + w + 1 < k) :
    fill_Count.l2 k [] 0 e ⟨R, w, h, e⟩ (satM E) (y : Int) = some (satM (R.foldl (addM Row.North (fun r => dnC R Row.South Row.North (alB e w h) y r.South) (fun r => alB e w h r y)) [])) := by
  have hl := loop_list (F := fun k i (m : List (A8_Int × Nat)) => fill_Count.l2 k (satM m) i e ⟨R, w, h, e⟩ (satM E) (y : Int)) R (addM Row.North (fun r => dnC R Row.South Row.North (alB e w h) y r.South) (fun r => alB e w h r y)) (w + 1) (fun _ _ => True) satM (fun k i m hi hk _ => by
    refine ⟨?_, trivial⟩
    show fill_Count.l2 (k + 1) (satM m) i e ⟨R, w, h, e⟩ (satM E) (y : Int) = _
    have hwi : w64 ((i : Int) + 1) = ((i + 1 : Nat) : Int) := by rw [w64_id (by omega) (by omega)]; rfl
    have hal : ∀ r, fill_job_allows k (Job.mk R w h e) r (y : Int) = some (alB e w h r y) := fun r => allows_eq he hw hh R r hy (by omega)
    rw [fill_Count.l2, if_pos (by simpa using hi), if_pos (by simp; omega)]
    simp only [hal, rdD_get hi, hwi, Option.bind_some]
    have hn : (if decide ((y : Int) > 0) = true then some (mget R[i].South 0 (satM E)) else some 1) = some ((sat (dnC R Row.South Row.North (alB e w h) y R[i].South) : Nat) : Int) := by
      by_cases h0 : 0 < y
      · rw [if_pos (by simpa using h0), satM_get, hE h0]
      · have : y = 0 := by omega
        subst this
        rw [if_neg (by decide)]; rfl
    rw [hn, Option.bind_some, mod_pos _ _ rfl]
    unfold addM
    cases hd : decide (0 < dnC R Row.South Row.North (alB e w h) y R[i].South)
    · simp
    · cases ha : alB e w h R[i] y
      · simp [ha]
      · rw [if_pos rfl, Option.bind_some, if_pos rfl]
        unfold fill_Count_1
        rw [satM_get, sat_add, Option.bind_some, satM_put, Option.bind_some]
        simp [ha]) (fun k m _ => by
    show fill_Count.l2 (k + 1) (satM m) R.length e ⟨R, w, h, e⟩ (satM E) (y : Int) = _
    rw [fill_Count.l2, if_neg (by simp)]) [] trivial k (by omega)
  exact hl
theorem count_l1 {e : Edges} {w h : Nat} (he : EdgeOK e w h) (hw : w ≤ 8) (hh : h ≤ 1000) (R : List Row) (hR : R.length ≤ 1000000) : ∀ (d y : Nat) (E : List (A8_Int × Nat)) (k : Nat), y + d = h → (0 < y → (∀ x, mget x 0 E = dnC R Row.South Row.North (alB e w h) y x) ∧ sumV E = sm R fun r => if alB e w h r (y - 1) = true then dnC R Row.South Row.North (alB e w h) (y - 1) r.South else 0) → R.length + w + d + 3 < k →
    ∃ E', fill_Count.l1 k (satM E) (y : Int) (h : Int) e ⟨R, w, h, e⟩ = some (satM E') ∧ (0 < h → (∀ x, mget x 0 E' = dnC R Row.South Row.North (alB e w h) h x) ∧ sumV E' = sm R fun r => if alB e w h r (h - 1) = true then dnC R Row.South Row.North (alB e w h) (h - 1) r.South else 0)
  | 0, y, E, k, hd, hE, hk => by
    obtain ⟨k, rfl⟩ : ∃ m, k = m + 1 := ⟨k - 1, by omega⟩
    have : y = h := by omega
    subst this
    exact ⟨E, by rw [fill_Count.l1, if_neg (by simp)], hE⟩
  | d + 1, y, E, k, hd, hE, hk => by
    obtain ⟨k, rfl⟩ : ∃ m, k = m + 1 := ⟨k - 1, by omega⟩
    have hwy : w64 ((y : Int) + 1) = ((y + 1 : Nat) : Int) := by rw [w64_id (by omega) (by omega)]; rfl
    rw [fill_Count.l1, if_pos (by simp; omega), count_l2 he hw hh R hR (by omega) E (fun h0 => (hE h0).1) (by omega), Option.bind_some, hwy]
    refine count_l1 he hw hh R hR d (y + 1) _ k (by omega) (fun _ => ⟨fun x => ?_, ?_⟩) (by omega)
    · rw [addM_get, dnC]
      show 0 + _ = _
      rw [Nat.zero_add]
    · rw [addM_sum]
      show 0 + _ = _
      rw [Nat.zero_add]; rfl
def waysN (s : List Tile) (w h : Nat) (e : Edges) : Nat := midC (rowsL s w []) (sideS s) (sideN s) (fitC s w h e) h 0
theorem allR_C (s : List Tile) (w : Nat) : allR s w = (rowsL s w []).map (mkR s) := rfl
theorem ways_dn {s : List Tile} {w h : Nat} (e : Edges) (hw : 1 ≤ w ∧ w ≤ 8) (hh : 1 ≤ h) : (sm (allR s w) fun r => if alB e w h r (h - 1) = true then dnC (allR s w) Row.South Row.North (alB e w h) (h - 1) r.South else 0) = waysN s w h e := by
  unfold waysN
  rw [tot_dn _ _ _ _ hh, allR_C, sm_map]
  refine sm_congr fun c hc => ?_
  have hB : ∀ c ∈ rowsL s w [], RowOK s w c := fun c hc => (mem_rowsL s w c).1 hc
  rw [dnC_map]
  have hk : ∀ c ∈ rowsL s w [], ∀ d ∈ rowsL s w [], (mkR s c).South = (mkR s d).North ↔ sideS s c = sideN s d := fun c hc d hd => by
    show wordOf (sideS s c) = wordOf (sideN s d) ↔ _
    have l1 := (hB c hc).len
    have l2 := (hB d hd).len
    refine ⟨fun e => (wordOf_inj ?_ ?_).1 e, fun e => by rw [e]⟩ <;> simp [sideS, sideN] <;> omega
  rw [dnC_key (rowsL s w []) (fun c => (mkR s c).South) (fun c => (mkR s c).North) (sideS s) (sideN s) _ hk (h - 1) c hc]
  rfl
def countX (s : List Tile) (w h : Nat) (e : Edges) : Int × Int := if waysN s w h e ≤ 1152921504606846976 then (((waysN s w h e : Nat) : Int), 0) else (0, 4)
theorem count_ok (set : List Tile) (w h : Nat) (e : Edges) (hv : validT set = true) (hw : 1 ≤ w ∧ w ≤ 8) (hh : 1 ≤ h ∧ h ≤ 60) (he : sidesB e w h = true) (hf : fewB set.length w = true) {k : Nat} (hk : 10000 < k) : fill_Count k set w h e = some (countX set w h e) := by
  have hl := valid_len hv
  have hp := max_pow hf
  have hRl := allR_len set w
  have heo : EdgeOK e w h := edge_of he
  obtain ⟨j, rfl⟩ : ∃ j, k = j + 5 := ⟨k - 5, by omega⟩
  unfold fill_Count fill_begin
  rw [tile_valid set (by omega) (by omega), hv, Option.bind_some, if_neg (by simp), if_neg (by simp; omega), begin_l0, he, few_eq set w (by omega) (by omega) (by omega), hf, all_eq set w hw.1 hw.2 (by omega) (by omega) (by omega)]
  simp only [if_true, Option.bind_some, sumb, Bool.not_true, Bool.false_eq_true, if_false, optM, bne_self_eq_false]
  obtain ⟨E', e1, e2⟩ := count_l1 heo hw.2 (by omega) (allR set w) (by omega) h 0 [] (j + 5) (by omega) (fun h0 => by omega) (by omega)
  have e1 : fill_Count.l1 (j + 5) ([] : List (A8_Int × Int)) 0 (h : Int) e ⟨allR set w, w, h, e⟩ = some (satM E') := e1
  rw [e1, Option.bind_some, mapfold_sat _ (fun x v => by unfold fill_Count_1; rfl), Option.bind_some, (e2 (by omega)).2, ways_dn e hw hh.1]
  unfold countX sat
  by_cases hs : waysN set w h e ≤ 1152921504606846976
  · rw [if_pos hs, if_neg (by simp; omega), Nat.min_eq_left (by omega)]
  · rw [if_neg hs, if_pos (by simp; omega)]
/-! ### the reference's count -/
end Gp
set_option linter.unusedVariables false
set_option linter.unusedSimpArgs false
namespace Gp
open Gw Gq
/-! ### there is a filling exactly if there are ways -/
theorem mk_sides {s : List Tile} {w : Nat} {c : List Nat} (hc : RowOK s w c) (hw : 1 ≤ w ∧ w ≤ 8) : (mkR s c).West = (tat s (c.getD 0 0)).W ∧ (mkR s c).East = (tat s (c.getD (w - 1) 0)).E ∧ ∀ x, x < w → (mkR s c).South.get x = (tat s (c.getD x 0)).S ∧ (mkR s c).North.get x = (tat s (c.getD x 0)).N := by
  refine ⟨?_, ?_, fun x hx => ⟨?_, ?_⟩⟩
  · show (tat s (c.headD 0)).W = _
    congr 2
    cases c <;> simp
  · show (tat s (c.getLastD 0)).E = _
    congr 2
    rw [List.getLastD_eq_getLast?, List.getLast?_eq_getElem?, hc.len, List.getD_eq_getElem?_getD]
  · show (wordOf (c.map fun i => (tat s i).S)).get x = _
    rw [wordOf_get _ x (by omega)]
    simp [List.getElem?_eq_getElem (show x < c.length by rw [hc.len]; exact hx)]
  · show (wordOf (c.map fun i => (tat s i).N)).get x = _
    rw [wordOf_get _ x (by omega)]
    simp [List.getElem?_eq_getElem (show x < c.length by rw [hc.len]; exact hx)]
theorem al_iff {s : List Tile} {w h : Nat} {e : Edges} {c : List Nat} (hc : RowOK s w c) (hw : 1 ≤ w ∧ w ≤ 8) (y : Nat) : alB e w h (mkR s c) y = true ↔ atB e.West y (tat s (c.getD 0 0)).W = true ∧ atB e.East y (tat s (c.getD (w - 1) 0)).E = true ∧ (y = 0 → ∀ x, x < w → atB e.South x (tat s (c.getD x 0)).S = true) ∧ (y + 1 = h → ∀ x, x < w → atB e.North x (tat s (c.getD x 0)).N = true) := by
  obtain ⟨h1, h2, h3⟩ := mk_sides hc hw
  unfold alB
  rw [h1, h2, Bool.and_eq_true, Bool.and_eq_true, List.all_eq_true, and_assoc]
  refine and_congr Iff.rfl (and_congr Iff.rfl ?_)
  simp only [List.mem_range]
  have h4 : ∀ x, x < w → (colE e h (mkR s c) y x = true ↔ (y = 0 → atB e.South x (tat s (c.getD x 0)).S = true) ∧ (y + 1 = h → atB e.North x (tat s (c.getD x 0)).N = true)) := fun x hx => by
    unfold colE
    rw [(h3 x hx).1, (h3 x hx).2, Bool.and_eq_true, Bool.or_eq_true, Bool.or_eq_true, Bool.not_eq_true', Bool.not_eq_true', decide_eq_false_iff_not, decide_eq_false_iff_not]
    exact and_congr Decidable.imp_iff_not_or.symm ⟨fun h h1 => h.resolve_left (fun n => n h1), fun h => Decidable.imp_iff_not_or.1 h⟩
  constructor
  · intro h
    exact ⟨fun h0 x hx => ((h4 x hx).1 (h x hx)).1 h0, fun h0 x hx => ((h4 x hx).1 (h x hx)).2 h0⟩
  · intro h x hx
    exact (h4 x hx).2 ⟨fun h0 => h.1 h0 x hx, fun h0 => h.2 h0 x hx⟩
theorem small_eq {s : List Tile} (a b : Int) (e : Edges) (hl : s.length ≤ 9223372036854775807) : ∃ v, law02_small 3000000 s a b e = some v ∧ (v = true → validT s = true ∧ (1 ≤ a ∧ a ≤ 8 ∧ 1 ≤ b ∧ b ≤ 60) ∧ sidesB e a b = true ∧ fewB s.length a.toNat = true ∧ s.length ≤ 60 ∧ (colsS s).length ^ a.toNat ≤ 1500 ∧ s.length ^ a.toNat ≤ 40000) := by
  obtain ⟨wd, hwd⟩ : ∃ wd, law02_wide s e = some wd := ⟨_, rfl⟩
  unfold law02_small
  rw [hwd, Option.bind_some]
  cases wd
  rotate_left
  · exact ⟨false, rfl, fun h => by cases h⟩
  rw [if_pos (by decide), fault_eq hl a b e (by omega)]
  simp only [Option.bind_some]
  cases hv : validT s
  · exact ⟨false, rfl, fun h => by cases h⟩
  rw [if_pos rfl]
  by_cases hr : 1 ≤ a ∧ a ≤ 8 ∧ 1 ≤ b ∧ b ≤ 60
  rotate_left
  · rw [if_neg hr]; exact ⟨false, rfl, fun h => by cases h⟩
  rw [if_pos hr]
  cases hsd : sidesB e a b
  · exact ⟨false, rfl, fun h => by cases h⟩
  have hl1 := valid_len hv
  obtain ⟨w, rfl⟩ : ∃ w : Nat, a = w := ⟨a.toNat, by omega⟩
  rw [if_pos rfl, if_pos (by decide), great_eq s hl1 (w := w) ⟨by omega, by omega⟩ (by omega)]
  cases hf : fewB s.length w
  · exact ⟨false, rfl, fun h => by cases h⟩
  obtain ⟨hb, hhv, hh2⟩ := heavy02 s hl1 (w := w) (by omega) (k := 3000000) (by omega)
  rw [Option.bind_some, Option.bind_some, if_pos (by decide), hhv]
  cases hb
  rotate_left
  · exact ⟨false, rfl, fun h => by cases h⟩
  obtain ⟨g1, g2, g3⟩ := hh2 rfl
  rw [Int.toNat_natCast]
  exact ⟨true, rfl, fun _ => ⟨rfl, hr, rfl, hf, g1, g2, g3⟩⟩
end Gp
set_option linter.unusedVariables false
set_option linter.unusedSimpArgs false
namespace Gq
open Gw
/-! ### all lists of some colours -/
def lsC (C : List Int) : Nat → List (List Int)
  | 0 => [[]]
  | n + 1 => (lsC C n).flatMap fun l => C.map fun c => l ++ [c]
theorem lsC_len (C : List Int) : ∀ n, (lsC C n).length = C.length ^ n
  | 0 => rfl
  | n + 1 => by
    have key : ∀ (o : List (List Int)), (o.flatMap fun l => C.map fun c => l ++ [c]).length = o.length * C.length := by
      intro o
      induction o with
      | nil => simp
      | cons a o ih => rw [List.flatMap_cons, List.length_append, ih, List.length_map, List.length_cons, Nat.add_mul]; omega
    rw [lsC, key, lsC_len C n, Nat.pow_succ]
theorem lsC_mem (C : List Int) : ∀ (n : Nat) (l : List Int), l ∈ lsC C n ↔ l.length = n ∧ ∀ x ∈ l, x ∈ C
  | 0, l => by
    rw [lsC, List.mem_singleton]
    constructor
    · rintro rfl; exact ⟨rfl, fun x hx => by cases hx⟩
    · rintro ⟨h, _⟩; exact List.eq_nil_of_length_eq_zero h
  | n + 1, l => by
    rw [lsC, List.mem_flatMap]
    constructor
    · rintro ⟨a, ha, h⟩
      obtain ⟨c, hc, rfl⟩ := List.mem_map.1 h
      obtain ⟨h1, h2⟩ := (lsC_mem C n a).1 ha
      refine ⟨by simp [h1], fun x hx => ?_⟩
      rcases List.mem_append.1 hx with h | h
      · exact h2 x h
      · rw [List.mem_singleton] at h; rw [h]; exact hc
    · rintro ⟨h1, h2⟩
      have hne : l ≠ [] := fun e => by rw [e] at h1; cases h1
      refine ⟨l.dropLast, (lsC_mem C n _).2 ⟨by simp [h1], fun x hx => h2 x (List.dropLast_subset l hx)⟩, List.mem_map.2 ⟨l.getLast hne, h2 _ (List.getLast_mem hne), List.dropLast_concat_getLast hne⟩⟩
theorem lsC_nodup {C : List Int} (hC : C.Nodup) : ∀ n, (lsC C n).Nodup
  | 0 => by rw [lsC]; exact List.nodup_cons.2 ⟨by simp, List.nodup_nil⟩
  | n + 1 => by
    have key : ∀ (o : List (List Int)), o.Nodup → (o.flatMap fun l => C.map fun c => l ++ [c]).Nodup := by
      intro o
      induction o with
      | nil => intro _; simp
      | cons a o ih =>
        intro ho
        obtain ⟨h1, h2⟩ := List.nodup_cons.1 ho
        rw [List.flatMap_cons, List.nodup_append]
        refine ⟨?_, ih h2, ?_⟩
        · exact List.Pairwise.map _ (fun x y hxy e => hxy (by simpa using e)) hC
        · intro x hx y hy e
          obtain ⟨c, _, rfl⟩ := List.mem_map.1 hx
          obtain ⟨b, hb, h⟩ := List.mem_flatMap.1 hy
          obtain ⟨d, _, rfl⟩ := List.mem_map.1 h
          have : a = b := by
            have := congrArg List.dropLast e
            simpa using this
          exact h1 (this ▸ hb)
    exact key _ (lsC_nodup hC n)
theorem foldl_push {α β : Type} (g : α → β) : ∀ (l : List α) (s : List β), l.foldl (fun s a => s ++ [g a]) s = s ++ l.map g
  | [], s => by simp
  | a :: l, s => by rw [List.foldl_cons, foldl_push g l, List.map_cons, List.append_assoc]; rfl
theorem foldl_cat {α β : Type} (g : α → List β) : ∀ (l : List α) (s : List β), l.foldl (fun s a => s ++ g a) s = s ++ l.flatMap g
  | [], s => by simp
  | a :: l, s => by rw [List.foldl_cons, foldl_cat g l, List.flatMap_cons, List.append_assoc]
theorem dnC_congr {α κ : Type} [DecidableEq κ] {B : List α} {S N : α → κ} {ft ft' : α → Nat → Bool} : ∀ (y : Nat) (x : κ), (∀ c ∈ B, ∀ z, z < y → ft c z = ft' c z) → dnC B S N ft y x = dnC B S N ft' y x
  | 0, x, _ => rfl
  | y + 1, x, h => by
    rw [dnC, dnC]
    exact sm_congr fun c hc => by rw [h c hc y (by omega), dnC_congr y (S c) fun c hc z hz => h c hc z (by omega)]
theorem upC_congr {α κ : Type} [DecidableEq κ] {B : List α} {S N : α → κ} {ft ft' : α → Nat → Bool} {h h' : Nat} : ∀ (n : Nat) (x : κ), (∀ c ∈ B, ∀ m, m < n → ft c (h - 1 - m) = ft' c (h' - 1 - m)) → upC B S N ft h n x = upC B S N ft' h' n x
  | 0, x, _ => rfl
  | n + 1, x, hh => by
    rw [upC, upC]
    exact sm_congr fun c hc => by rw [hh c hc n (by omega), upC_congr n (N c) fun c hc m hm => hh c hc m (by omega)]
theorem mid_cut {α κ : Type} [DecidableEq κ] (B : List α) (S N : α → κ) (ft : α → Nat → Bool) (L : List κ) (hL : L.Nodup) (hS : ∀ c ∈ B, S c ∈ L) {h k : Nat} (hk : k < h) : sm L (fun l => dnC B S N ft k l * upC B S N ft h (h - k) l) = midC B S N ft h 0 := by
  rw [← mid_const B S N ft k hk]
  unfold midC
  obtain ⟨m, hm⟩ : ∃ m, h - k = m + 1 := ⟨h - k - 1, by omega⟩
  have hm' : h - 1 - k = m := by omega
  have hm2 : h - 1 - m = k := by omega
  rw [hm, hm']
  have e1 : ∀ l, dnC B S N ft k l * upC B S N ft h (m + 1) l = sm B fun c => if S c = l then (if ft c k = true then dnC B S N ft k (S c) * upC B S N ft h m (N c) else 0) else 0 := fun l => by
    rw [upC, ← sm_mul, hm2]
    refine sm_congr fun c _ => ?_
    by_cases hl : S c = l
    · subst hl
      cases ft c k <;> simp
    · simp [hl]
  rw [sm_congr (fun l _ => e1 l), sm_swap]
  refine sm_congr fun c hc => ?_
  rw [sm_congr (g := fun l => if l = S c then (if ft c k = true then dnC B S N ft k (S c) * upC B S N ft h m (N c) else 0) else 0) (fun l _ => by
    by_cases hl : S c = l
    · subst hl; simp
    · have : ¬ l = S c := fun e => hl e.symm
      rw [if_neg hl, if_neg this])]
  exact sm_once L hL (S c) _ (hS c hc)
end Gq
namespace Gp
open Gw Gq
theorem lists_l2 (C : List Int) (out : List (List Int)) {j : Nat} (hj : j < out.length) (acc : List (List Int)) (h1 : acc.length + C.length ≤ 1000000) (h2 : out[j].length ≤ 1000) {k : Nat} (hk : C.length < k) : law02_lists.l2 k acc 0 C out j = some (acc ++ C.map fun c => out[j] ++ [c]) := by
  have := loop_list (F := fun k i (s : List (List Int)) => law02_lists.l2 k s i C out j) C (fun s c => s ++ [out[j] ++ [c]]) 0 (fun i s => s.length = acc.length + i) id (fun k i s hi _ hs => by
    refine ⟨?_, by simp [hs]; omega⟩
    have hwi : w64 ((i : Int) + 1) = ((i + 1 : Nat) : Int) := by rw [w64_id (by omega) (by omega)]; rfl
    show law02_lists.l2 (k + 1) s i C out j = _
    rw [law02_lists.l2, if_pos (by simpa using hi), if_pos (by omega), if_pos (by omega), rdD_get hj, rdD_get hi, if_pos (by simp; omega), if_pos (by simp; omega), if_pos (by omega), Option.bind_some, hwi]; rfl) (fun k s _ => by
    show law02_lists.l2 (k + 1) s C.length C out j = _
    rw [law02_lists.l2, if_neg (by simp)]; rfl) acc (by simp) k (by omega)
  have this : law02_lists.l2 k acc 0 C out j = _ := this
  rw [this, foldl_push]; rfl
theorem lists_l1 (C : List Int) (out : List (List Int)) (h1 : out.length * C.length + C.length ≤ 1000000) (ho : out.length ≤ 1000000) (h2 : ∀ o ∈ out, o.length ≤ 1000) {k : Nat} (hk : out.length + C.length + 1 < k) : law02_lists.l1 k [] 0 C out = some (out.flatMap fun o => C.map fun c => o ++ [c]) := by
  have := loop_list (F := fun k i (s : List (List Int)) => law02_lists.l1 k s i C out) out (fun s o => s ++ C.map fun c => o ++ [c]) (C.length + 1) (fun i s => s.length = i * C.length) id (fun k i s hi hk hs => by
    refine ⟨?_, by simp [hs, Nat.add_mul]⟩
    have hwi : w64 ((i : Int) + 1) = ((i + 1 : Nat) : Int) := by rw [w64_id (by omega) (by omega)]; rfl
    have hm : i * C.length ≤ out.length * C.length := Nat.mul_le_mul_right _ (by omega)
    show law02_lists.l1 (k + 1) s i C out = _
    rw [law02_lists.l1, if_pos (by simpa using hi), lists_l2 C out hi s (by omega) (h2 _ (List.getElem_mem hi)) (by omega), Option.bind_some, hwi]) (fun k s _ => by
    show law02_lists.l1 (k + 1) s out.length C out = _
    rw [law02_lists.l1, if_neg (by simp)]; rfl) [] (by simp) k (by omega)
  have this : law02_lists.l1 k [] 0 C out = _ := this
  rw [this, foldl_cat]; rfl
theorem lists_l0 (C : List Int) {w : Nat} (hw : w ≤ 8) (hC : C.length ≤ 300) (hp : ∀ n, n ≤ w → C.length ^ n ≤ 300) : ∀ (d i k : Nat), i + d = w → 1000 + d < k → law02_lists.l0 k (lsC C i) i C w = some (lsC C w)
  | 0, i, k, hd, hk => by
    obtain ⟨k, rfl⟩ : ∃ m, k = m + 1 := ⟨k - 1, by omega⟩
    obtain rfl : i = w := by omega
    rw [law02_lists.l0, if_neg (by simp)]
  | d + 1, i, k, hd, hk => by
    obtain ⟨k, rfl⟩ : ∃ m, k = m + 1 := ⟨k - 1, by omega⟩
    have hwi : w64 ((i : Int) + 1) = ((i + 1 : Nat) : Int) := by rw [w64_id (by omega) (by omega)]; rfl
    have hl := lsC_len C i
    have hpi := hp i (by omega)
    have hm : (lsC C i).length * C.length ≤ 300 * 300 := Nat.mul_le_mul (by omega) hC
    rw [law02_lists.l0, if_pos (by simp; omega), lists_l1 C (lsC C i) (by omega) (by omega) (fun o ho => by have := ((lsC_mem C i o).1 ho).1; omega) (by omega), Option.bind_some, hwi]
    exact lists_l0 C hw hC hp d (i + 1) k (by omega) (by omega)
theorem lists_eq (C : List Int) {w : Nat} (hw : 1 ≤ w ∧ w ≤ 8) (hp : C.length ^ w ≤ 300) {k : Nat} (hk : 2000 < k) : law02_lists k C w = some (lsC C w) := by
  have h1 : ∀ n, n ≤ w → C.length ^ n ≤ 300 := fun n hn => pow_le_of hn hp (by omega)
  have h2 := h1 1 hw.1
  rw [Nat.pow_one] at h2
  have := lists_l0 C hw.2 h2 h1 w 0 k (by omega) (by omega)
  have this : law02_lists.l0 k [([] : List Int)] 0 C w = _ := this
  unfold law02_lists
  rw [this]; rfl
theorem side_all {s : List Tile} {w : Nat} {c : List Nat} (hc : RowOK s w c) (hw : 1 ≤ w) (g : Tile → Int) {l : List Int} (hl : l.length = w) : (∀ x, x < w → atB l x (g (tat s (c.getD x 0))) = true) ↔ (c.map fun i => g (tat s i)) = l := by
  have h0 : decide (l.length = 0) = false := decide_eq_false (by omega)
  unfold atB
  rw [h0]
  simp only [Bool.false_or, beq_iff_eq]
  have lc := hc.len
  constructor
  · intro h
    refine List.ext_getElem (by simp; omega) fun i h1 h2 => ?_
    have := h i (by omega)
    rw [List.getD_eq_getElem?_getD, List.getElem?_eq_getElem h2, List.getD_eq_getElem?_getD, List.getElem?_eq_getElem (by omega)] at this
    simpa using this.symm
  · rintro rfl x hx
    rw [List.getD_eq_getElem?_getD, List.getElem?_eq_getElem (by simp; omega), List.getD_eq_getElem?_getD, List.getElem?_eq_getElem (by omega)]
    simp
end Gp
set_option linter.unusedVariables false
set_option linter.unusedSimpArgs false
namespace Gp
open Gw Gq
theorem at_take (W : List Int) {k h y : Nat} (hk : k ≤ h) (hy : y < k) (hW : W.length = 0 ∨ W.length = h) (c : Int) : atB (W.take k) y c = atB W y c := by
  unfold atB
  rcases hW with h0 | h0
  · have : W = [] := List.eq_nil_of_length_eq_zero h0
    subst this; simp
  · rw [decide_eq_false (show ¬ (W.take k).length = 0 by rw [List.length_take]; omega), decide_eq_false (show ¬ W.length = 0 by omega)]
    simp [List.getElem?_take, hy]
theorem at_drop (W : List Int) {k h y : Nat} (hk : y + k < h) (hW : W.length = 0 ∨ W.length = h) (c : Int) : atB (W.drop k) y c = atB W (y + k) c := by
  unfold atB
  rcases hW with h0 | h0
  · have : W = [] := List.eq_nil_of_length_eq_zero h0
    subst this; simp
  · rw [decide_eq_false (show ¬ (W.drop k).length = 0 by rw [List.length_drop]; omega), decide_eq_false (show ¬ W.length = 0 by omega)]
    simp [List.getElem?_drop, Nat.add_comm]
theorem fit_low {s : List Tile} {w h k : Nat} (hw : 1 ≤ w ∧ w ≤ 8) (hk : k < h) (N E S W l : List Int) (hE : E.length = 0 ∨ E.length = h) (hW : W.length = 0 ∨ W.length = h) (hl : l.length = w) {c : List Nat} (hc : RowOK s w c) {y : Nat} (hy : y < k) : fitC s w k ⟨l, E.take k, S, W.take k⟩ c y = (fitC s w h ⟨N, E, S, W⟩ c y && (decide (y + 1 ≠ k) || decide (sideN s c = l))) := by
  unfold fitC
  rw [Bool.eq_iff_iff, Bool.and_eq_true, al_iff hc hw, al_iff hc hw, Bool.or_eq_true, decide_eq_true_eq, decide_eq_true_eq, at_take W (Nat.le_of_lt hk) hy hW, at_take E (Nat.le_of_lt hk) hy hE]
  have := side_all hc hw.1 Tile.N hl
  constructor
  · rintro ⟨a, b, d, e⟩
    refine ⟨⟨a, b, d, fun h1 => by omega⟩, ?_⟩
    by_cases hy : y + 1 = k
    · exact .inr (this.1 (e hy))
    · exact .inl hy
  · rintro ⟨⟨a, b, d, _⟩, e⟩
    exact ⟨a, b, d, fun hy => this.2 (e.resolve_left fun h => h hy)⟩
theorem fit_high {s : List Tile} {w h k : Nat} (hw : 1 ≤ w ∧ w ≤ 8) (hk : 1 ≤ k) (N E S W l : List Int) (hE : E.length = 0 ∨ E.length = h) (hW : W.length = 0 ∨ W.length = h) (hl : l.length = w) {c : List Nat} (hc : RowOK s w c) {y : Nat} (hy : y + k < h) : fitC s w (h - k) ⟨N, E.drop k, l, W.drop k⟩ c y = (fitC s w h ⟨N, E, S, W⟩ c (y + k) && (decide (y ≠ 0) || decide (sideS s c = l))) := by
  unfold fitC
  rw [Bool.eq_iff_iff, Bool.and_eq_true, al_iff hc hw, al_iff hc hw, Bool.or_eq_true, decide_eq_true_eq, decide_eq_true_eq, at_drop W hy hW, at_drop E hy hE]
  have := side_all hc hw.1 Tile.S hl
  constructor
  · rintro ⟨a, b, d, e⟩
    refine ⟨⟨a, b, fun h1 => by omega, fun h1 => e (by omega)⟩, ?_⟩
    by_cases hy : y = 0
    · exact .inr (this.1 (d hy))
    · exact .inl hy
  · rintro ⟨⟨a, b, _, d⟩, e⟩
    exact ⟨a, b, fun hy => this.2 (e.resolve_left fun h => h hy), fun h1 => d (by omega)⟩
theorem ways_low {s : List Tile} {w h k : Nat} (hw : 1 ≤ w ∧ w ≤ 8) (hk : 1 ≤ k ∧ k < h) (N E S W l : List Int) (hE : E.length = 0 ∨ E.length = h) (hW : W.length = 0 ∨ W.length = h) (hl : l.length = w) : waysN s w k ⟨l, E.take k, S, W.take k⟩ = dnC (rowsL s w []) (sideS s) (sideN s) (fitC s w h ⟨N, E, S, W⟩) k l := by
  have hB : ∀ c ∈ rowsL s w [], RowOK s w c := fun c hc => (mem_rowsL s w c).1 hc
  obtain ⟨m, rfl⟩ : ∃ m, k = m + 1 := ⟨k - 1, by omega⟩
  unfold waysN
  rw [tot_dn _ _ _ _ hk.1, dnC]
  refine sm_congr fun c hc => ?_
  rw [show m + 1 - 1 = m by omega, fit_low hw hk.2 N E S W l hE hW hl (hB c hc) (by omega), decide_eq_false (show ¬ (m + 1 ≠ m + 1) by omega), Bool.false_or, dnC_congr (ft' := fitC s w h ⟨N, E, S, W⟩) m _ (fun d hd z hz => by
    rw [fit_low hw hk.2 N E S W l hE hW hl (hB d hd) (by omega), decide_eq_true (show z + 1 ≠ m + 1 by omega), Bool.true_or, Bool.and_true]), Bool.and_comm]
theorem ways_high {s : List Tile} {w h k : Nat} (hw : 1 ≤ w ∧ w ≤ 8) (hk : 1 ≤ k ∧ k < h) (N E S W l : List Int) (hE : E.length = 0 ∨ E.length = h) (hW : W.length = 0 ∨ W.length = h) (hl : l.length = w) : waysN s w (h - k) ⟨N, E.drop k, l, W.drop k⟩ = upC (rowsL s w []) (sideS s) (sideN s) (fitC s w h ⟨N, E, S, W⟩) h (h - k) l := by
  have hB : ∀ c ∈ rowsL s w [], RowOK s w c := fun c hc => (mem_rowsL s w c).1 hc
  obtain ⟨m, hm⟩ : ∃ m, h - k = m + 1 := ⟨h - k - 1, by omega⟩
  unfold waysN
  rw [tot_up _ _ _ _ (by omega : 1 ≤ h - k)]
  have e0 : upC (rowsL s w []) (sideS s) (sideN s) (fitC s w h ⟨N, E, S, W⟩) h (h - k) l = upC (rowsL s w []) (sideS s) (sideN s) (fitC s w h ⟨N, E, S, W⟩) h (m + 1) l := by rw [hm]
  rw [e0, upC]
  refine sm_congr fun c hc => ?_
  rw [fit_high hw hk.1 N E S W l hE hW hl (hB c hc) (by omega), decide_eq_false (show ¬ ((0 : Nat) ≠ 0) by omega), Bool.false_or, upC_congr (ft' := fitC s w h ⟨N, E, S, W⟩) (h' := h) (h - k - 1) _ (fun d hd q hq => by
    rw [fit_high hw hk.1 N E S W l hE hW hl (hB d hd) (by omega), decide_eq_true (show h - k - 1 - q ≠ 0 by omega), Bool.true_or, Bool.and_true]
    congr 1; omega), show h - k - 1 = m by omega, show h - 1 - m = 0 + k by omega, Bool.and_comm]
theorem stacked_l0 {s : List Tile} {w h q : Nat} (hv : validT s = true) (hw : 1 ≤ w ∧ w ≤ 8) (hh : 1 ≤ h ∧ h ≤ 60) (hq : 1 ≤ q ∧ q < h) (N E S W : List Int) (he : sidesB ⟨N, E, S, W⟩ w h = true) (hf : fewB s.length w = true) (n : Nat) (hn : n ≤ 1152921504606846976) (p4 : Int) (hp4 : w64 (1 + Int.tmod (w64 p4) (w64 ((h : Int) - 1))) = (q : Int)) (L : List (List Int)) (hlL : L.length ≤ 1000000) (hL : ∀ l ∈ L, l.length = w) : ∀ (d i k a : Nat), i + d = L.length → 20000 + d < k → a + sm (L.drop i) (fun l => waysN s w q ⟨l, E.take q, S, W.take q⟩ * waysN s w (h - q) ⟨N, E.drop q, l, W.drop q⟩) = n →
    law02_FillStacked.l0 k (a : Int) i s w h ⟨N, E, S, W⟩ p4 ((n : Int), 0) (W.take q, W.drop q) (E.take q, E.drop q) L = some (.inr (n : Int))
  | 0, i, k, a, hd, hk, ha => by
    obtain ⟨k, rfl⟩ : ∃ m, k = m + 1 := ⟨k - 1, by omega⟩
    rw [List.drop_eq_nil_of_le (by omega), sm_nil] at ha
    rw [law02_FillStacked.l0, if_neg (by simp; omega), show a = n by omega]
  | d + 1, i, k, a, hd, hk, ha => by
    obtain ⟨k, rfl⟩ : ∃ m, k = m + 1 := ⟨k - 1, by omega⟩
    have hi : i < L.length := by omega
    have hwi : w64 ((i : Int) + 1) = ((i + 1 : Nat) : Int) := by rw [w64_id (by omega) (by omega)]; rfl
    have hwq : w64 ((h : Int) - (q : Int)) = ((h - q : Nat) : Int) := by rw [w64_id (by omega) (by omega)]; omega
    have ll := hL _ (List.getElem_mem hi)
    have he2 := edge_of he
    have hE : E.length = 0 ∨ E.length = h := he2.ea
    have hW : W.length = 0 ∨ W.length = h := he2.we
    have hS : S.length = 0 ∨ S.length = w := he2.s
    have hN : N.length = 0 ∨ N.length = w := he2.n
    have hlo : sidesB ⟨L[i], E.take q, S, W.take q⟩ w q = true := by
      unfold sidesB
      simp only [Bool.and_eq_true, Bool.or_eq_true, decide_eq_true_eq, List.length_take]
      omega
    have hhi : sidesB ⟨N, E.drop q, L[i], W.drop q⟩ w (h - q : Nat) = true := by
      unfold sidesB
      simp only [Bool.and_eq_true, Bool.or_eq_true, decide_eq_true_eq, List.length_drop]
      omega
    rw [List.drop_eq_getElem_cons hi, sm_cons] at ha
    obtain ⟨A, hA⟩ : ∃ A, waysN s w q ⟨L[i], E.take q, S, W.take q⟩ = A := ⟨_, rfl⟩
    obtain ⟨B, hB⟩ : ∃ B, waysN s w (h - q) ⟨N, E.drop q, L[i], W.drop q⟩ = B := ⟨_, rfl⟩
    rw [hA, hB] at ha
    have hAB : A * B ≤ n := by omega
    rw [law02_FillStacked.l0, if_pos (by simpa using hi), if_pos (by omega), rdD_get hi, hp4, hwq, hwi]
    have c1 := count_ok s w q ⟨L[i], E.take q, S, W.take q⟩ hv hw ⟨hq.1, by omega⟩ hlo hf (k := k) (by omega)
    have c2 := count_ok s w (h - q) ⟨N, E.drop q, L[i], W.drop q⟩ hv hw ⟨by omega, by omega⟩ hhi hf (k := k) (by omega)
    have ih := fun a' h' => stacked_l0 hv hw hh hq N E S W he hf n hn p4 hp4 L hlL hL d (i + 1) k a' (by omega) (by omega) h'
    rw [c1, Option.bind_some, c2, Option.bind_some]
    by_cases hA0 : A = 0
    · have x1 : countX s w q ⟨L[i], E.take q, S, W.take q⟩ = (0, 0) := by unfold countX; rw [hA, hA0]; rfl
      rw [x1, if_pos (by simp), Option.bind_some]
      simp only [sumb]
      refine ih a ?_
      rw [hA0, Nat.zero_mul] at ha; omega
    by_cases hB0 : B = 0
    · have x2 : countX s w (h - q) ⟨N, E.drop q, L[i], W.drop q⟩ = (0, 0) := by unfold countX; rw [hB, hB0]; rfl
      rw [x2, if_pos (by simp), Option.bind_some]
      simp only [sumb]
      refine ih a ?_
      rw [hB0, Nat.mul_zero] at ha; omega
    have hA1 : A ≤ A * B := Nat.le_mul_of_pos_right A (by omega)
    have hB1 : B ≤ A * B := Nat.le_mul_of_pos_left B (by omega)
    have x1 : countX s w q ⟨L[i], E.take q, S, W.take q⟩ = ((A : Int), 0) := by unfold countX; rw [hA, if_pos (by omega)]
    have x2 : countX s w (h - q) ⟨N, E.drop q, L[i], W.drop q⟩ = ((B : Int), 0) := by unfold countX; rw [hB, if_pos (by omega)]
    have hle : A ≤ n / B := (Nat.le_div_iff_mul_le (by omega)).2 hAB
    have hdl := Nat.div_le_self n B
    have hti : Int.tdiv (n : Int) (B : Int) = ((n / B : Nat) : Int) := rfl
    obtain ⟨D, hD⟩ : ∃ D, n / B = D := ⟨_, rfl⟩
    rw [hD] at hle hdl hti
    have hdiv : w64 (Int.tdiv (n : Int) (B : Int)) = (D : Int) := by
      rw [hti, w64_id (by omega) (by omega)]
    have hmul : w64 ((A : Int) * (B : Int)) = ((A * B : Nat) : Int) := by
      rw [← Int.natCast_mul, w64_id (by omega) (by omega)]
    have hadd : minI (w64 ((a : Int) + ((A * B : Nat) : Int))) 1152921504606846977 = ((a + A * B : Nat) : Int) := by
      rw [w64_id (by omega) (by omega)]
      unfold minI
      rw [if_neg (by omega)]; rfl
    rw [x1, x2, if_neg (by simp; omega), if_neg (by simp), if_pos (show (B : Int) ≠ 0 by omega), hdiv, Option.bind_some, if_neg (by rw [decide_eq_true_eq]; show ¬ (A : Int) > (D : Int); omega), Option.bind_some]
    simp only [sumb]
    rw [hmul, hadd]
    exact ih _ (by omega)
theorem take_cut (l : List Int) {q h : Nat} (hq : q ≤ h) (hl : l.length = 0 ∨ l.length = h) : (if decide ((l.length : Int) > 0) = true then (if 0 ≤ (0 : Int) ∧ (0 : Int) ≤ (q : Int) ∧ (q : Int) ≤ (l.length : Int) then (if 0 ≤ (q : Int) ∧ (q : Int) ≤ (l.length : Int) ∧ (l.length : Int) ≤ (l.length : Int) then some (cut l 0 q, cut l q (l.length : Int)) else none) else none) else some (([] : List Int), ([] : List Int))) = some (l.take q, l.drop q) := by
  rcases hl with h0 | h0
  · have : l = [] := List.eq_nil_of_length_eq_zero h0
    subst this; rw [if_neg (by simp)]; simp
  · by_cases hz : h = 0
    · have : l = [] := List.eq_nil_of_length_eq_zero (by omega)
      subst this; rw [if_neg (by simp)]; simp
    · have c1 : cut l 0 q = l.take q := by unfold cut; simp
      have c2 : cut l q (l.length : Int) = l.drop q := by
        unfold cut; simp only [Int.toNat_natCast]
        first | rw [List.take_of_length_le (by simp)] | simp
      rw [if_pos (decide_eq_true (by omega)), if_pos (by omega), if_pos (by omega), c1, c2]
theorem law02_FillStacked_pure : ∀ (p0 : List Tile) (p1 : Int) (p2 : Int) (p3 : Edges) (p4 : Int), ((∀ x ∈ p0, ok_Tile x) ∧ p0.length ≤ Go.maxLen) → (ok64 p1) → (ok64 p2) → (ok_Edges p3) → ((Go.Lit.int .u8 p4).wf = true) → ∃ k, law02_FillStacked k p0 p1 p2 p3 p4 = some true := by
  intro s a b e p4 hs _ _ _ hp
  have hp : 0 ≤ p4 ∧ p4 < 256 := by
    have : (decide (0 ≤ p4) && decide (p4 ≤ 255)) = true := hp
    simp at this; omega
  have hl : s.length ≤ 9223372036854775807 := hs.2
  refine ⟨3000000, ?_⟩
  have aw : law02_awake 3000000 = some true := awake02_ok 2999700
  unfold law02_FillStacked
  obtain ⟨v, hv1, hv2⟩ := small_eq a b e hl
  rw [hv1, Option.bind_some]
  cases v
  · rw [if_pos (by rfl), Option.bind_some, if_pos rfl, aw]; rfl
  obtain ⟨hv, hr, hsd, hf, g1, g2, g3⟩ := hv2 rfl
  by_cases hb2 : b < 2
  · rw [if_pos (by rw [decide_eq_true hb2]; rfl), Option.bind_some, if_pos rfl, aw]; rfl
  have hl1 := valid_len hv
  obtain ⟨w, rfl⟩ : ∃ w : Nat, a = w := ⟨a.toNat, by omega⟩
  obtain ⟨h, rfl⟩ : ∃ h : Nat, b = h := ⟨b.toNat, by omega⟩
  rw [Int.toNat_natCast] at hf g2 g3
  have hw : 1 ≤ w ∧ w ≤ 8 := by omega
  have hh : 1 ≤ h ∧ h ≤ 60 := by omega
  have h2 := (colsS_spec s).2.1
  rw [if_neg (by rw [decide_eq_false hb2]; decide), colours_eq s (by omega) (by omega), Option.bind_some, power_eq _ w (by omega) (by omega) (by omega), Option.bind_some, Option.bind_some, Nat.min_eq_left (by omega)]
  by_cases hp : (colsS s).length ^ w ≤ 300
  rotate_left
  · rw [if_pos (decide_eq_true (by omega)), aw]; rfl
  rw [if_neg (by rw [decide_eq_true_eq]; omega), count_ok s w h _ hv hw hh hsd hf (by omega), Option.bind_some]
  unfold countX
  by_cases hn : waysN s w h e ≤ 1152921504606846976
  rotate_left
  · rw [if_neg hn, if_pos (by decide), if_pos (by decide), aw]; rfl
  have hwh : w64 ((h : Int) - 1) = ((h - 1 : Nat) : Int) := by rw [w64_id (by omega) (by omega)]; omega
  obtain ⟨q, hq, hq1, hq2⟩ : ∃ q : Nat, w64 (1 + Int.tmod (w64 p4) ((h - 1 : Nat) : Int)) = (q : Int) ∧ 1 ≤ q ∧ q < h := by
    rw [w64_id (n := p4) (by omega) (by omega)]
    have h0 : 0 ≤ Int.tmod p4 ((h - 1 : Nat) : Int) := Int.tmod_nonneg _ (by omega)
    have h1 : Int.tmod p4 ((h - 1 : Nat) : Int) < ((h - 1 : Nat) : Int) := Int.tmod_lt_of_pos _ (by omega)
    refine ⟨(1 + Int.tmod p4 ((h - 1 : Nat) : Int)).toNat, ?_, by omega, by omega⟩
    rw [w64_id (by omega) (by omega)]; omega
  have he2 := edge_of hsd
  obtain ⟨N, E, S, W⟩ := e
  have hE : E.length = 0 ∨ E.length = h := he2.ea
  have hW : W.length = 0 ∨ W.length = h := he2.we
  rw [if_pos hn, if_neg (show ¬ ((0 : Int) != 0) = true by decide), hwh, if_pos (by omega), Option.bind_some, hq]
  have t1 := take_cut W (Nat.le_of_lt hq2) hW
  have t2 := take_cut E (Nat.le_of_lt hq2) hE
  simp only at t1 t2 ⊢
  rw [t1, Option.bind_some, t2, Option.bind_some, Option.bind_some, lists_eq (colsS s) hw hp (by omega), Option.bind_some]
  have hll := lsC_len (colsS s) w
  have hB : ∀ c ∈ rowsL s w [], RowOK s w c := fun c hc => (mem_rowsL s w c).1 hc
  obtain ⟨n1, _, _⟩ := colsS_spec s
  have hsum : sm (lsC (colsS s) w) (fun l => waysN s w q ⟨l, E.take q, S, W.take q⟩ * waysN s w (h - q) ⟨N, E.drop q, l, W.drop q⟩) = waysN s w h ⟨N, E, S, W⟩ := by
    rw [sm_congr (g := fun l => dnC (rowsL s w []) (sideS s) (sideN s) (fitC s w h ⟨N, E, S, W⟩) q l * upC (rowsL s w []) (sideS s) (sideN s) (fitC s w h ⟨N, E, S, W⟩) h (h - q) l) (fun l hl => by
      have ll := ((lsC_mem _ _ _).1 hl).1
      rw [ways_low hw ⟨hq1, hq2⟩ N E S W l hE hW ll, ways_high hw ⟨hq1, hq2⟩ N E S W l hE hW ll])]
    refine mid_cut _ _ _ _ _ (lsC_nodup n1 w) (fun c hc => ?_) hq2
    refine (lsC_mem _ _ _).2 ⟨by simp [sideS, (hB c hc).len], fun x hx => ?_⟩
    obtain ⟨i, hi, rfl⟩ := List.mem_map.1 hx
    obtain ⟨z, hz, rfl⟩ := List.getElem_of_mem hi
    have := (hB c hc).lt z (by rw [← (hB c hc).len]; exact hz)
    rw [List.getD_eq_getElem?_getD, List.getElem?_eq_getElem hz] at this
    exact (colsS_col s _ this).1
  have := stacked_l0 hv hw hh ⟨hq1, hq2⟩ N E S W hsd hf _ hn p4 (by rw [hwh]; exact hq) (lsC (colsS s) w) (by omega) (fun l hl => ((lsC_mem _ _ _).1 hl).1) (lsC (colsS s) w).length 0 3000000 0 (by omega) (by omega) (by rw [List.drop_zero]; omega)
  have this : law02_FillStacked.l0 3000000 0 0 s w h ⟨N, E, S, W⟩ p4 ((waysN s w h ⟨N, E, S, W⟩ : Int), 0) (W.take q, W.drop q) (E.take q, E.drop q) (lsC (colsS s) w) = _ := this
  rw [this, Option.bind_some]
  simp only [sumb]
  rw [if_pos (by simp), aw]; rfl
end Gp
