/- The plain law: what the functions compute answers as the statement says. -/
import Derived.Test.YtpbnoldflfcllaaGp
import Derived.KernelRfl
set_option linter.unusedVariables false
set_option linter.unusedSimpArgs false
namespace Gq
open Go Gw Gp
/-! ### numbers and lists -/
theorem w64_id {n : Int} (h0 : -9223372036854775808 ≤ n) (h1 : n ≤ 9223372036854775807) : w64 n = n := by
  show IntKind.i64.wrap n = n
  have e : IntKind.i64.wrap n = if (true && decide (n % 18446744073709551616 ≥ 9223372036854775808)) = true then n % 18446744073709551616 - 18446744073709551616 else n % 18446744073709551616 := rfl
  rw [e]
  simp only [Bool.true_and, decide_eq_true_eq]
  split <;> omega
theorem rdD_nat {α : Type} (xs : List α) (i : Nat) (d : α) : rdD xs (i : Int) d = xs.getD i d := by simp [rdD]
theorem rdD_get {α : Type} {xs : List α} {i : Nat} (h : i < xs.length) (d : α) : rdD xs (i : Int) d = xs[i] := by
  simp [rdD, List.getD, List.getElem?_eq_getElem h]
def firstS {α β : Type} (g : Nat → α → Option β) : Nat → List α → Option β
  | _, [] => none
  | i, a :: r => match g i a with
    | some b => some b
    | none => firstS g (i + 1) r
def fin {β : Type} : Option β → Sum β Unit
  | some b => .inl b
  | none => .inr ()
theorem scan {α β : Type} {F : Nat → Int → Option (Sum β Unit)} {xs : List α} {g : Nat → α → Option β}
    (hF : ∀ k (i : Nat), i ≤ xs.length → F (k + 1) (i : Int) = if h : i < xs.length then (match g i xs[i] with | some b => some (.inl b) | none => F k ((i + 1 : Nat) : Int)) else some (.inr ())) :
    ∀ (n k i : Nat), i + n = xs.length → n < k → F k (i : Int) = some (fin (firstS g i (xs.drop i)))
  | 0, k, i, hi, hk => by
    obtain ⟨k, rfl⟩ : ∃ m, k = m + 1 := ⟨k - 1, by omega⟩
    have hi : i = xs.length := by omega
    subst hi
    rw [hF k _ (Nat.le_refl _), dif_neg (Nat.lt_irrefl _), List.drop_length]; rfl
  | n + 1, k, i, hi, hk => by
    obtain ⟨k, rfl⟩ : ∃ m, k = m + 1 := ⟨k - 1, by omega⟩
    have hlt : i < xs.length := by omega
    rw [hF k i (by omega), dif_pos hlt, List.drop_eq_getElem_cons hlt, firstS]
    cases hg : g i xs[i] with
    | some b => rfl
    | none => exact scan hF n k (i + 1) (by omega) (by omega)
end Gq
set_option linter.unusedVariables false
set_option linter.unusedSimpArgs false
namespace Gq
theorem flat_succ {α : Type} (f : Nat → List α) (n : Nat) : (List.range (n + 1)).flatMap f = (List.range n).flatMap f ++ f n := by
  rw [List.range_succ, List.flatMap_append]; simp
end Gq
namespace Gp
open Gw Gq
/-! ### the tiles of a machine -/
def hd (Y q s : Nat) : Int := ((Y + q * Y + s : Nat) : Int)
end Gp
set_option linter.unusedVariables false
set_option linter.unusedSimpArgs false
namespace Gq
theorem flat_get {α : Type} {f : Nat → List α} : ∀ {n q j : Nat} {t : α}, q < n → (f q)[j]? = some t → ((List.range n).flatMap f)[((List.range q).flatMap f).length + j]? = some t
  | 0, q, j, t, h, _ => by omega
  | n + 1, q, j, t, h, hj => by
    rw [flat_succ, List.getElem?_append]
    by_cases hq : q < n
    · have := flat_get (n := n) hq hj
      rw [if_pos (by by_cases hl : ((List.range q).flatMap f).length + j < ((List.range n).flatMap f).length
                     · exact hl
                     · rw [List.getElem?_eq_none (by omega)] at this; cases this)]
      exact this
    · have : q = n := by omega
      subst this
      rw [if_neg (by omega), show ((List.range q).flatMap f).length + j - ((List.range q).flatMap f).length = j by omega]; exact hj
theorem flat_len {α : Type} {f : Nat → List α} {b : Nat} (hf : ∀ i, (f i).length = b) : ∀ n, ((List.range n).flatMap f).length = n * b
  | 0 => by simp
  | n + 1 => by
    rw [flat_succ, List.length_append, Nat.add_mul, Nat.one_mul, flat_len hf n, hf n]
end Gq
namespace Gp
open Gw Gq
/-! ### where the tiles of a machine lie -/
end Gp
set_option linter.unusedVariables false
set_option linter.unusedSimpArgs false
namespace Gp
open Gw Gq
/-! ### the tile that shows a cell of a step -/
theorem Tile.ext' {a b : Tile} (h1 : a.N = b.N) (h2 : a.E = b.E) (h3 : a.S = b.S) (h4 : a.W = b.W) : a = b := by
  cases a; cases b; simp only at h1 h2 h3 h4; subst h1 h2 h3 h4; rfl
end Gp
set_option linter.unusedVariables false
set_option linter.unusedSimpArgs false
namespace Gq
theorem loop_all {σ ρ τ : Type} {F : Nat → Int → σ → Option (Sum ρ τ)} {S : Nat → σ} {b : Nat → Bool} {n K : Nat} {r : ρ} {e : τ} (hs : ∀ k i, K ≤ k → i < n → F (k + 1) (i : Int) (S i) = if b i = true then F k ((i + 1 : Nat) : Int) (S (i + 1)) else some (.inl r)) (he : ∀ k, F (k + 1) (n : Int) (S n) = some (.inr e)) :
    ∀ k, n + K < k → F k 0 (S 0) = some (if (List.range n).all b = true then .inr e else .inl r) := by
  have key : ∀ d i k, i + d = n → d + K < k → F k (i : Int) (S i) = some (if (List.range' i d).all b = true then .inr e else .inl r) := by
    intro d
    induction d with
    | zero =>
      intro i k hi hk
      obtain ⟨k, rfl⟩ : ∃ m, k = m + 1 := ⟨k - 1, by omega⟩
      have : i = n := by omega
      subst this; rw [he]; rfl
    | succ d ih =>
      intro i k hi hk
      obtain ⟨k, rfl⟩ : ∃ m, k = m + 1 := ⟨k - 1, by omega⟩
      rw [hs k i (by omega) (by omega), List.range'_succ, List.all_cons]
      cases hb : b i
      · rfl
      · rw [if_pos rfl, ih (i + 1) k (by omega) (by omega)]; rfl
  intro k hk
  rw [List.range_eq_range']
  exact key n 0 k (by omega) hk
theorem firstS_ge' {α : Type} {p : α → Bool} : ∀ (xs : List α) (i : Nat), (match firstS (fun i a => if p a = true then none else some (i : Int)) i xs with
    | some x => decide (0 ≤ x)
    | none => false) = !xs.all p
  | [], i => rfl
  | a :: r, i => by
    rw [firstS]
    cases h : p a
    · simp [h]
    · simp only [if_true, List.all_cons, h, Bool.true_and]
      exact firstS_ge' r (i + 1)
end Gq
namespace Gp
open Gw Gq
/-! ### sets of tiles and patterns -/
def inCol (c : Int) : Bool := decide (0 ≤ c ∧ c < 1000)
def colB (t : Tile) : Bool := inCol t.N && inCol t.E && inCol t.S && inCol t.W
theorem idx_col (xs : List Int) (hl : xs.length ≤ 1000000) (k : Nat) (hk : xs.length < k) :
    slices_IndexFunc_int_int_with_tile_colour_1.l0 k 0 xs = some (fin (firstS (fun i a => if inCol a = true then none else some (i : Int)) 0 xs)) := by
  have := scan (F := fun k i => slices_IndexFunc_int_int_with_tile_colour_1.l0 k i xs) (xs := xs) (g := fun i a => if inCol a = true then none else some (i : Int)) (fun k i hi => by
    show slices_IndexFunc_int_int_with_tile_colour_1.l0 (k + 1) i xs = _
    rw [slices_IndexFunc_int_int_with_tile_colour_1.l0]
    by_cases h : i < xs.length
    · have h' : (i : Int) < (xs.length : Int) := by omega
      have h2 : 0 ≤ (i : Int) ∧ (i : Int) < (xs.length : Int) := by omega
      rw [dif_pos h, if_pos (by simpa using h'), if_pos h2, rdD_get h, tile_colour_1, w64_id (by omega) (by omega)]
      by_cases hb : 0 ≤ xs[i] ∧ xs[i] < 1000
      · have h3 : ¬ (xs[i] < 0 ∨ 1000 ≤ xs[i]) := by omega
        simp [inCol, hb]
        intro hh; exact absurd hh h3
      · have h3 : (xs[i] < 0 ∨ 1000 ≤ xs[i]) := by omega
        simp [inCol, hb, h3]
    · have h' : ¬ (i : Int) < (xs.length : Int) := by omega
      rw [dif_neg h, if_neg (by simpa using h')]) xs.length k 0 (by simp) hk
  simpa using this
theorem colour_eq (xs : List Int) (hl : xs.length ≤ 1000000) (k : Nat) (hk : xs.length < k) : tile_colour k xs = some (xs.all inCol) := by
  unfold tile_colour slices_ContainsFunc_int_int_with_tile_colour_1 slices_IndexFunc_int_int_with_tile_colour_1
  rw [idx_col xs hl k hk]
  have := firstS_ge' (p := inCol) xs 0
  cases hf : firstS (fun i a => if inCol a = true then none else some (i : Int)) 0 xs <;> rw [hf] at this <;> cases ha : xs.all inCol <;> rw [ha] at this <;> simp [fin, sumb] at this ⊢
  · exact this
  · exact this
def metS (set : List Tile) (i : Nat) : List (Tile × Bool) := (set.take i).map fun t => (t, true)
theorem mget_met (t : Tile) : ∀ l : List Tile, mget t false (l.map fun t => (t, true)) = decide (t ∈ l)
  | [] => rfl
  | a :: r => by
    simp only [List.map_cons, mget]
    by_cases h : t = a
    · simp [h]
    · rw [if_neg h, mget_met t r]; simp [h]
theorem mput_met (t : Tile) : ∀ l : List Tile, t ∉ l → mput t true (l.map fun t => (t, true)) = (l.map fun t => (t, true)) ++ [(t, true)]
  | [], _ => rfl
  | a :: r, h => by
    simp only [List.mem_cons, not_or] at h
    simp only [List.map_cons, mput, if_neg h.1, mput_met t r h.2, List.cons_append]
def newB (set : List Tile) (i : Nat) : Bool := !decide (set.getD i z_Tile ∈ set.take i) && colB (set.getD i z_Tile)
def validT (set : List Tile) : Bool := decide (set.length ≤ 1000) && (List.range set.length).all (newB set)
theorem tile_valid (set : List Tile) {k : Nat} (hk : 1006 ≤ k) (hl : set.length ≤ 9223372036854775807) : tile_Valid k set = some (validT set) := by
  unfold tile_Valid validT
  by_cases hb : set.length ≤ 1000
  · rw [if_neg (by simp; omega)]
    have := loop_all (F := fun k i (m : List (Tile × Bool)) => tile_Valid.l0 k m i set) (S := metS set) (b := newB set) (n := set.length) (K := 5) (r := false) (e := ()) (fun k i hk hi => by
      show tile_Valid.l0 (k + 1) (metS set i) i set = if newB set i = true then tile_Valid.l0 k (metS set (i + 1)) ((i + 1 : Nat) : Int) set else _
      rw [tile_Valid.l0, if_pos (by simpa using hi), if_pos (by omega), rdD_nat, metS, mget_met]
      have ht : set.getD i z_Tile = set[i] := by simp [List.getElem?_eq_getElem hi]
      unfold newB
      by_cases hm : set.getD i z_Tile ∈ set.take i
      · rw [if_pos (by simpa using hm), show decide (set.getD i z_Tile ∈ set.take i) = true from decide_eq_true hm]; rfl
      · rw [if_neg (by simpa using hm), colour_eq _ (by simp) k (by simp; omega), Option.bind_some, Option.bind_some]
        have hc : ([(set.getD i z_Tile).N, (set.getD i z_Tile).E, (set.getD i z_Tile).S, (set.getD i z_Tile).W].all inCol) = colB (set.getD i z_Tile) := by simp [colB, Bool.and_assoc]
        rw [hc]
        cases hcb : colB (set.getD i z_Tile)
        · simp
        · rw [mput_met _ _ hm, w64_id (by omega) (by omega)]
          simp only [hm, Bool.not_true, Bool.false_eq_true, if_false, decide_false, Bool.not_false, Bool.and_self, if_true]
          unfold metS
          rw [List.take_add_one, List.map_append, List.getElem?_eq_getElem hi, ht]; rfl) (fun k => by
      show tile_Valid.l0 (k + 1) (metS set set.length) set.length set = _
      rw [tile_Valid.l0, if_neg (by simp)]) k (by omega)
    have h0 : tile_Valid.l0 k [] 0 set = some (if (List.range set.length).all (newB set) = true then .inr () else .inl false) := this
    rw [h0]
    cases (List.range set.length).all (newB set) <;> simp [sumb, hb]
  · rw [if_pos (by simp; omega)]; simp [hb]
def formB (p : Pattern) : Bool := decide (1 ≤ p.Width ∧ 1 ≤ p.Height ∧ p.Width ≤ 40000 ∧ p.Height ≤ 40000 ∧ p.Width * p.Height ≤ 40000 ∧ (p.Cells.length : Int) = p.Width * p.Height)
def inSet (n : Nat) (c : Int) : Bool := decide (0 ≤ c ∧ c < (n : Int))
def ofB (set : List Tile) (p : Pattern) : Bool := validT set && formB p && p.Cells.all (inSet set.length)
structure PForm (set : List Tile) (p : Pattern) (W H : Nat) : Prop where
  w : p.Width = W
  h : p.Height = H
  dW : 1 ≤ W ∧ W ≤ 40000
  dH : 1 ≤ H ∧ H ≤ 40000
  wh : H * W ≤ 40000
  len : p.Cells.length = H * W
  cel : ∀ j, j < H * W → 0 ≤ p.Cells.getD j 0 ∧ p.Cells.getD j 0 < (set.length : Int)
theorem place_lt {W H x y : Nat} (hx : x < W) (hy : y < H) : y * W + x < H * W := by
  have := Nat.mul_le_mul_right W (show y + 1 ≤ H by omega)
  rw [Nat.succ_mul] at this; omega
end Gp
set_option linter.unusedVariables false
set_option linter.unusedSimpArgs false
namespace Gp
open Gw Gq
/-! ### the pictures are patterns of the tiles -/
theorem PForm.of {set : List Tile} {p : Pattern} {W H : Nat} (f : PForm set p W H) (hv : validT set = true) : ofB set p = true := by
  unfold ofB formB
  have h1 := f.dW; have h2 := f.dH; have h3 := f.wh
  have e : p.Width * p.Height = ((H * W : Nat) : Int) := by rw [f.w, f.h, Int.natCast_mul, Int.mul_comm]
  rw [hv, e, f.w, f.h, f.len]
  simp only [Bool.true_and, Bool.and_eq_true, decide_eq_true_eq, List.all_eq_true]
  refine ⟨⟨by omega, by omega, by omega, by omega, by omega, trivial⟩, fun a ha => ?_⟩
  obtain ⟨j, hj, he⟩ := List.mem_iff_getElem.1 ha
  have := f.cel j (by rw [← f.len]; exact hj)
  rw [show p.Cells.getD j 0 = p.Cells[j] from by simp [List.getElem?_eq_getElem hj], he] at this
  unfold inSet; exact decide_eq_true this
end Gp
set_option linter.unusedVariables false
set_option linter.unusedSimpArgs false
namespace Gq
end Gq
namespace Gp
open Gw Gq
/-! ### the patterns of the statements' own reference -/
end Gp
set_option linter.unusedVariables false
set_option linter.unusedSimpArgs false
namespace Gp
open Gw Gq
end Gp
set_option linter.unusedVariables false
set_option linter.unusedSimpArgs false
namespace Gp
open Gw Gq
/-! ### a torus, repeated -/
end Gp
set_option linter.unusedVariables false
set_option linter.unusedSimpArgs false
namespace Gp
open Gw Gq
/-! ### the first layer's reference -/
theorem colour01 (c : Int) : ref01_colour c = some (inCol c) := by
  unfold ref01_colour inCol
  by_cases h : 0 ≤ c ∧ c < 1000
  · simp [h]
  · rw [decide_eq_false h]
    congr 1
    cases h1 : decide (c ≥ 0)
    · rfl
    · have : ¬ c < 1000 := fun h2 => h ⟨by simpa using h1, h2⟩
      simp [this]
theorem index01 {set : List Tile} (hl : set.length ≤ 1000000) (t : Tile) {k : Nat} (hk : set.length < k) : ∃ r : Int, ref01_Index k set t = some r ∧ decide (r ≥ 0) = decide (t ∈ set) := by
  have := scan (F := fun k i => ref01_Index.l0 k i set t) (xs := set) (g := fun i a => if a = t then some (i : Int) else none) (fun k i hi => by
    show ref01_Index.l0 (k + 1) i set t = _
    rw [ref01_Index.l0]
    by_cases h : i < set.length
    · have h2 : 0 ≤ (i : Int) ∧ (i : Int) < (set.length : Int) := by omega
      rw [dif_pos h, if_pos (by simpa using h), if_pos h2, rdD_get h, w64_id (by omega) (by omega)]
      by_cases hb : set[i] = t
      · subst hb; simp
      · have : ((set[i].N == t.N) && ((set[i].E == t.E) && ((set[i].S == t.S) && (set[i].W == t.W)))) = false := by
          cases hc : ((set[i].N == t.N) && ((set[i].E == t.E) && ((set[i].S == t.S) && (set[i].W == t.W))))
          · rfl
          · simp only [Bool.and_eq_true, beq_iff_eq] at hc
            exact absurd (Tile.ext' hc.1 hc.2.1 hc.2.2.1 hc.2.2.2) hb
        rw [this, if_neg hb]; rfl
    · rw [dif_neg h, if_neg (by simpa using h)]) set.length k 0 (by simp) hk
  have h0 : ref01_Index.l0 k 0 set t = some (fin (firstS (fun i a => if a = t then some (i : Int) else none) 0 (set.drop 0))) := this
  rw [List.drop_zero] at h0
  have key : ∀ (l : List Tile) (i : Nat), match firstS (fun i a => if a = t then some (i : Int) else none) i l with
      | some x => decide (x ≥ 0) = decide (t ∈ l)
      | none => decide (t ∈ l) = false := by
    intro l
    induction l with
    | nil => intro i; simp [firstS]
    | cons a r ih =>
      intro i
      rw [firstS]
      by_cases ha : a = t
      · subst ha; simp
      · have hne : ¬ t = a := fun e => ha e.symm
        rw [if_neg ha]
        have := ih (i + 1)
        cases hf : firstS (fun i a => if a = t then some (i : Int) else none) (i + 1) r with
        | none => rw [hf] at this; simp only [List.mem_cons, hne, false_or]; exact this
        | some x => rw [hf] at this; simp only [List.mem_cons, hne, false_or]; exact this
  unfold ref01_Index
  rw [h0]
  have hk2 := key set 0
  cases hf : firstS (fun i a => if a = t then some (i : Int) else none) 0 set with
  | none => rw [hf] at hk2; exact ⟨-1, rfl, by rw [hk2]; rfl⟩
  | some x => rw [hf] at hk2; exact ⟨x, rfl, hk2⟩
theorem valid01 (set : List Tile) {k : Nat} (hk : 2002 < k) (hl : set.length ≤ 9223372036854775807) : ref01_Valid k set = some (validT set) := by
  unfold ref01_Valid validT
  by_cases hb : set.length ≤ 1000
  · rw [if_neg (by simp; omega)]
    have := loop_all (F := fun k i (_ : Unit) => ref01_Valid.l0 k i set) (S := fun _ => ()) (b := newB set) (n := set.length) (K := 1001) (r := false) (e := ()) (fun k i hk hi => by
      show ref01_Valid.l0 (k + 1) i set = if newB set i = true then ref01_Valid.l0 k ((i + 1 : Nat) : Int) set else _
      have hcut : cut set (0 : Int) (i : Int) = set.take i := by unfold cut; simp
      obtain ⟨r, hr, hd⟩ := index01 (set := set.take i) (by rw [List.length_take]; omega) (set.getD i z_Tile) (k := k) (by rw [List.length_take]; omega)
      rw [ref01_Valid.l0, if_pos (by simpa using hi), if_pos (by omega)]
      simp only [rdD_nat, colour01, Option.bind_some, hcut]
      rw [if_pos (⟨by omega, by omega, by omega⟩ : 0 ≤ (0 : Int) ∧ (0 : Int) ≤ (i : Int) ∧ (i : Int) ≤ (set.length : Int)), hr, w64_id (by omega) (by omega)]
      simp only [Option.bind_some, hd]
      unfold newB colB
      cases inCol (set.getD i z_Tile).N
      · simp
      · cases inCol (set.getD i z_Tile).E
        · simp
        · cases inCol (set.getD i z_Tile).S
          · simp
          · cases inCol (set.getD i z_Tile).W
            · simp
            · cases decide (set.getD i z_Tile ∈ set.take i) <;> simp) (fun k => by
      show ref01_Valid.l0 (k + 1) set.length set = _
      rw [ref01_Valid.l0, if_neg (by simp)]) k (by omega)
    have h0 : ref01_Valid.l0 k 0 set = some (if (List.range set.length).all (newB set) = true then .inr () else .inl false) := this
    rw [h0]
    cases (List.range set.length).all (newB set) <;> simp [sumb, hb]
  · rw [if_pos (by simp; omega)]; simp [hb]
end Gp
set_option linter.unusedVariables false
set_option linter.unusedSimpArgs false
namespace Gp
open Gw Gq
/-! ### grids: lists of rows -/
def grid (w h : Nat) (g : Nat → Nat → Int) : List Int := (List.range h).flatMap fun y => (List.range w).map (g y)
theorem grid_len (w h : Nat) (g : Nat → Nat → Int) : (grid w h g).length = h * w := flat_len (f := fun y => (List.range w).map (g y)) (b := w) (fun y => by simp) h
theorem grid_get (w h : Nat) (g : Nat → Nat → Int) {x y : Nat} (hx : x < w) (hy : y < h) : (grid w h g).getD (y * w + x) 0 = g y x := by
  have := flat_get (f := fun y => (List.range w).map (g y)) (n := h) (q := y) (j := x) (t := g y x) hy (by simp [hx])
  have e : ((List.range y).flatMap fun y => (List.range w).map (g y)).length = y * w := grid_len w y g
  rw [e] at this
  unfold grid
  rw [List.getD_eq_getElem?_getD, this]; rfl
/-! ### stores into a list -/
def sets (l : List Int) (q : List (Nat × Int)) : List Int := q.foldl (fun l p => l.set p.1 p.2) l
/-! ### patterns that have the form of one -/
structure GForm (p : Pattern) (W H : Nat) : Prop where
  w : p.Width = W
  h : p.Height = H
  dW : 1 ≤ W ∧ W ≤ 40000
  dH : 1 ≤ H ∧ H ≤ 40000
  wh : H * W ≤ 40000
  len : p.Cells.length = H * W
theorem GForm.form {p : Pattern} {W H : Nat} (f : GForm p W H) : formB p = true := by
  have h1 := f.dW; have h2 := f.dH; have h3 := f.wh
  have e : p.Width * p.Height = ((H * W : Nat) : Int) := by rw [f.w, f.h, Int.natCast_mul, Int.mul_comm]
  unfold formB; rw [e, f.w, f.h, f.len]; exact decide_eq_true ⟨by omega, by omega, by omega, by omega, by omega, rfl⟩
theorem PForm.g {set : List Tile} {p : Pattern} {W H : Nat} (f : PForm set p W H) : GForm p W H := ⟨f.w, f.h, f.dW, f.dH, f.wh, f.len⟩
def cellG (p : Pattern) (W y x : Nat) : Int := p.Cells.getD (y * W + x) 0
theorem GForm.at {p : Pattern} {W H : Nat} (f : GForm p W H) {x y : Nat} (hx : x < W) (hy : y < H) : w64 (w64 ((y : Int) * (W : Int)) + (x : Int)) = ((y * W + x : Nat) : Int) ∧ (0 ≤ ((y * W + x : Nat) : Int) ∧ ((y * W + x : Nat) : Int) < (p.Cells.length : Int)) := by
  have hwh := f.wh
  have hp := place_lt hx hy
  refine ⟨?_, by omega, by rw [f.len]; omega⟩
  rw [← Int.natCast_mul, w64_id (n := ((y * W : Nat) : Int)) (by omega) (by omega), w64_id (by omega) (by omega)]; rfl
/-! ### the changed patterns -/
end Gp
set_option linter.unusedVariables false
set_option linter.unusedSimpArgs false
namespace Gp
open Gw Gq
/-! ### cuts -/
/-! ### patterns, repeated -/
/-! ### what is equal -/
end Gp
set_option linter.unusedVariables false
set_option linter.unusedSimpArgs false
namespace Gp
open Gw Gq
/-! ### changed sets -/
def upT (t : Tile) : Tile := ⟨t.S, t.E, t.N, t.W⟩
structure Chg (f : Tile → Tile) : Prop where
  inj : ∀ a b, f a = f b → a = b
  col : ∀ t, colB (f t) = colB t
theorem chg_up : Chg upT := ⟨fun a b h => by cases a; cases b; simp only [upT, Tile.mk.injEq] at h; obtain ⟨rfl, rfl, rfl, rfl⟩ := h; rfl, fun t => by unfold colB upT; simp only; cases inCol t.N <;> cases inCol t.E <;> cases inCol t.S <;> cases inCol t.W <;> rfl⟩
theorem getD_map (f : Tile → Tile) {s : List Tile} {i : Nat} (h : i < s.length) : (s.map f).getD i z_Tile = f (s.getD i z_Tile) := by simp [List.getElem?_eq_getElem h]
theorem Chg.valid {f : Tile → Tile} (c : Chg f) {s : List Tile} (hv : validT s = true) : validT (s.map f) = true := by
  unfold validT at hv ⊢
  simp only [Bool.and_eq_true, decide_eq_true_eq, List.all_eq_true, List.mem_range, List.length_map] at hv ⊢
  refine ⟨hv.1, fun i hi => ?_⟩
  have := hv.2 i hi
  unfold newB at this ⊢
  rw [getD_map f hi, ← List.map_take, c.col]
  simp only [Bool.and_eq_true, Bool.not_eq_true', decide_eq_false_iff_not] at this ⊢
  refine ⟨fun hm => this.1 ?_, this.2⟩
  obtain ⟨a, ha, he⟩ := List.mem_map.1 hm
  rw [← c.inj _ _ he]; exact ha
/-! ### how the tiles of a grid meet -/
def JP (W H : Nat) (round : Bool) (T : Nat → Nat → Tile) : Prop :=
  (∀ y x, y < H → x < W → (x + 1 < W ∨ round = true) → (T y x).E = (T y ((x + 1) % W)).W) ∧ (∀ y x, y < H → x < W → (y + 1 < H ∨ round = true) → (T y x).N = (T ((y + 1) % H) x).S)
theorem JP.congr {W H : Nat} {round : Bool} {T T' : Nat → Nat → Tile} (he : ∀ y x, y < H → x < W → T y x = T' y x) (h : JP W H round T) : JP W H round T' := by
  refine ⟨fun y x hy hx hr => ?_, fun y x hy hx hr => ?_⟩
  · rw [← he y x hy hx, ← he y _ hy (Nat.mod_lt _ (by omega))]; exact h.1 y x hy hx hr
  · rw [← he y x hy hx, ← he _ x (Nat.mod_lt _ (by omega)) hx]; exact h.2 y x hy hx hr
def GP (W H : Nat) (c : Nat → Nat → Int) : Pattern := ⟨W, H, grid W H c⟩
def TT (s : List Tile) (c : Nat → Nat → Int) (y x : Nat) : Tile := s.getD (c y x).toNat z_Tile
structure GOK (s : List Tile) (W H : Nat) (c : Nat → Nat → Int) (whole : Bool) : Prop where
  valid : validT s = true
  dW : 1 ≤ W ∧ W ≤ 40000
  dH : 1 ≤ H ∧ H ≤ 40000
  wh : H * W ≤ 40000
  cel : ∀ y x, y < H → x < W → 0 ≤ c y x ∧ c y x < (s.length : Int)
  fits : JP W H false (TT s c)
  round : whole = true ↔ JP W H true (TT s c)
theorem GOK.congr {s : List Tile} {W H : Nat} {c c' : Nat → Nat → Int} {whole : Bool} (g : GOK s W H c whole) (he : ∀ y x, y < H → x < W → c y x = c' y x) : GOK s W H c' whole := by
  have ht : ∀ y x, y < H → x < W → TT s c y x = TT s c' y x := fun y x hy hx => by unfold TT; rw [he y x hy hx]
  exact ⟨g.valid, g.dW, g.dH, g.wh, fun y x hy hx => by rw [← he y x hy hx]; exact g.cel y x hy hx, g.fits.congr ht, g.round.trans ⟨fun h => h.congr ht, fun h => h.congr (fun y x hy hx => (ht y x hy hx).symm)⟩⟩
theorem TT_map {f : Tile → Tile} {s : List Tile} {c : Nat → Nat → Int} {y x : Nat} (h : 0 ≤ c y x ∧ c y x < (s.length : Int)) : TT (s.map f) c y x = f (TT s c y x) := by
  unfold TT
  rw [getD_map f (by omega)]
/-! mirrored -/
theorem mod_back {W x : Nat} (hx : x < W) : (W - 1 - (x + 1) % W + 1) % W = W - 1 - x ∧ W - 1 - (x + 1) % W < W ∧ (x + 1 < W → W - 1 - (x + 1) % W + 1 < W) := by
  by_cases h : x + 1 < W
  · rw [Nat.mod_eq_of_lt h, show W - 1 - (x + 1) + 1 = W - 1 - x by omega, Nat.mod_eq_of_lt (by omega)]; omega
  · have e : x + 1 = W := by omega
    rw [e, Nat.mod_self, show W - 1 - 0 + 1 = W by omega, Nat.mod_self]; omega
theorem JP.up {W H : Nat} {round : Bool} {T : Nat → Nat → Tile} (h : JP W H round T) : JP W H round (fun y x => upT (T (H - 1 - y) x)) := by
  refine ⟨fun y x hy hx hr => ?_, fun y x hy hx hr => ?_⟩
  · exact h.1 (H - 1 - y) x (by omega) hx hr
  · obtain ⟨e, hlt, hi⟩ := mod_back hy
    have := h.2 (H - 1 - (y + 1) % H) x hlt hx (hr.imp hi id)
    rw [e] at this
    exact this.symm
theorem GOK.up {s : List Tile} {W H : Nat} {c : Nat → Nat → Int} {whole : Bool} (g : GOK s W H c whole) : GOK (s.map upT) W H (fun y x => c (H - 1 - y) x) whole := by
  have hdH := g.dH
  have ht : ∀ y x, y < H → x < W → upT (TT s c (H - 1 - y) x) = TT (s.map upT) (fun y x => c (H - 1 - y) x) y x := fun y x hy hx => by
    exact (TT_map (f := upT) (c := fun y x => c (H - 1 - y) x) (y := y) (x := x) (g.cel (H - 1 - y) x (by omega) hx)).symm
  refine ⟨chg_up.valid g.valid, g.dW, g.dH, g.wh, fun y x hy hx => by rw [List.length_map]; exact g.cel _ x (by omega) hx, g.fits.up.congr ht, ?_⟩
  rw [g.round]
  constructor
  · exact fun h => h.up.congr ht
  · intro h
    have := (h.congr (fun y x hy hx => (ht y x hy hx).symm)).up
    exact this.congr fun y x hy hx => by
      rw [show H - 1 - (H - 1 - y) = y by omega]; rfl
theorem GP.g {W H : Nat} {c : Nat → Nat → Int} (dW : 1 ≤ W ∧ W ≤ 40000) (dH : 1 ≤ H ∧ H ≤ 40000) (wh : H * W ≤ 40000) : GForm (GP W H c) W H := ⟨rfl, rfl, dW, dH, wh, grid_len W H c⟩
theorem GP.cell {W H : Nat} (c : Nat → Nat → Int) {y x : Nat} (hy : y < H) (hx : x < W) : cellG (GP W H c) W y x = c y x := grid_get W H c hx hy
end Gp
set_option linter.unusedVariables false
set_option linter.unusedSimpArgs false
namespace Gp
open Gw Gq
end Gp
set_option linter.unusedVariables false
set_option linter.unusedSimpArgs false
namespace Gq
end Gq
namespace Gp
open Gw Gq
/-! ### words, rows -/
def tat (set : List Tile) (i : Nat) : Tile := set.getD i z_Tile
/-! few -/
end Gp
set_option linter.unusedVariables false
set_option linter.unusedSimpArgs false
namespace Gq
open Gw
end Gq
namespace Gp
open Gw Gq
/-! ### rectangles that are filled -/
end Gp
set_option linter.unusedVariables false
set_option linter.unusedSimpArgs false
namespace Gp
open Gw Gq
/-! the whole function -/
end Gp
set_option linter.unusedVariables false
set_option linter.unusedSimpArgs false
namespace Gp
open Gw Gq
/-! ### rows and patterns -/
end Gp
set_option linter.unusedVariables false
set_option linter.unusedSimpArgs false
namespace Gp
open Gw Gq
/-! ### squares -/
end Gp
set_option linter.unusedVariables false
set_option linter.unusedSimpArgs false
namespace Gp
open Gw Gq
/-! ### tori -/
end Gp
set_option linter.unusedVariables false
set_option linter.unusedSimpArgs false
namespace Gp
open Gw Gq
/-! tori and patterns -/
end Gp
set_option linter.unusedVariables false
set_option linter.unusedSimpArgs false
namespace Gp
open Gw Gq
end Gp
set_option linter.unusedVariables false
set_option linter.unusedSimpArgs false
namespace Gp
open Gw Gq
/-! ### three tiles: a torus, or no square of side four -/
/-! masks of a set -/
def hR (set : List Tile) (i j : Nat) : Bool := decide (i < set.length ∧ j < set.length ∧ (tat set i).E = (tat set j).W)
end Gp
set_option linter.unusedVariables false
set_option linter.unusedSimpArgs false
namespace Gp
open Gw Gq
/-! ### the least torus -/
/-! ### the decision -/
end Gp
set_option linter.unusedVariables false
set_option linter.unusedSimpArgs false
namespace Gp
open Gw Gq
/-! ### fillings as grids; turned and renamed sets -/
end Gp
set_option linter.unusedVariables false
set_option linter.unusedSimpArgs false
namespace Gp
open Gw Gq
/-! ### small sets -/
end Gp
set_option linter.unusedVariables false
set_option linter.unusedSimpArgs false
namespace Gp
open Gw Gq
/-! ### a set with one tile more -/
end Gp
set_option linter.unusedVariables false
set_option linter.unusedSimpArgs false
namespace Gp
open Gw Gq
/-! ### names of colours in the order in which they are met -/
theorem mgetN {κ ν : Type} [DecidableEq κ] (x y : κ) (z v : ν) : ∀ l : List (κ × ν), mget x z (mput y v l) = if x = y then v else mget x z l
  | [] => by simp [mput, mget]
  | p :: r => by
    simp only [mput]
    by_cases h : y = p.1
    · rw [if_pos h]
      simp only [mget]
      by_cases hx : x = y
      · rw [if_pos hx, if_pos hx]
      · rw [if_neg hx, if_neg hx, if_neg (fun e => hx (e.trans h.symm))]
    · rw [if_neg h]
      simp only [mget]
      by_cases hx : x = p.1
      · rw [if_pos hx, if_pos hx, if_neg (fun e => h (e.symm.trans hx))]
      · rw [if_neg hx, if_neg hx]; exact mgetN x y z v r
theorem mhasN {κ ν : Type} [DecidableEq κ] (x y : κ) (v : ν) : ∀ l : List (κ × ν), mhas x (mput y v l) = (decide (x = y) || mhas x l)
  | [] => by simp [mput, mhas]
  | p :: r => by
    simp only [mput]
    by_cases h : y = p.1
    · rw [if_pos h]
      simp only [mhas]
      by_cases hx : x = y
      · simp [hx]
      · have : ¬ x = p.1 := fun e => hx (e.trans h.symm)
        simp [hx, this]
    · rw [if_neg h]
      simp only [mhas, mhasN x y v r]
      by_cases hx : x = y
      · have : ¬ x = p.1 := fun e => h (hx.symm.trans e)
        simp [hx]
      · simp [hx]
theorem mlenN {κ ν : Type} [DecidableEq κ] (y : κ) (v : ν) : ∀ l : List (κ × ν), mhas y l = false → (mput y v l).length = l.length + 1
  | [], _ => rfl
  | p :: r, h => by
    simp only [mhas] at h
    simp only [mput]
    by_cases e : y = p.1
    · simp [e] at h
    · rw [if_neg e, List.length_cons, mlenN y v r (by simpa [e] using h), List.length_cons]
structure NM (m : List (Int × Int)) (met : List Int) : Prop where
  len : m.length = met.length
  has : ∀ c, mhas c m = decide (c ∈ met)
  get : ∀ c, c ∈ met → mget c 0 m = ((met.idxOf c : Nat) : Int)
def addM (met : List Int) (c : Int) : List Int := if c ∈ met then met else met ++ [c]
def ixM (met : List Int) (c : Int) : Int := ((met.idxOf c : Nat) : Int)
theorem addM_mem (met : List Int) (c x : Int) : x ∈ addM met c ↔ x ∈ met ∨ x = c := by
  unfold addM
  split
  · rename_i h
    exact ⟨.inl, fun h2 => h2.elim id fun e => e ▸ h⟩
  · rw [List.mem_append, List.mem_singleton]
theorem addM_len (met : List Int) (c : Int) : (addM met c).length ≤ met.length + 1 := by
  unfold addM; split
  · omega
  · rw [List.length_append]; exact Nat.le_refl _
theorem ixM_add {met : List Int} {x : Int} (c : Int) (h : x ∈ met) : ixM (addM met c) x = ixM met x := by
  unfold addM ixM
  split
  · rfl
  · rw [List.idxOf_append, if_pos h]
theorem of_ok {m : List (Int × Int)} {met : List Int} (h : NM m met) (c : Int) : ∃ m', census_names_of m c = some (ixM (addM met c) c, m') ∧ NM m' (addM met c) := by
  unfold census_names_of
  rw [h.has]
  by_cases hc : c ∈ met
  · have ha : addM met c = met := by unfold addM; rw [if_pos hc]
    rw [decide_eq_true hc, ha]
    exact ⟨m, by rw [if_neg (by decide), Option.bind_some, h.get c hc]; rfl, h⟩
  · have ha : addM met c = met ++ [c] := by unfold addM; rw [if_neg hc]
    have hi : (met ++ [c]).idxOf c = met.length := by
      rw [List.idxOf_append, if_neg hc]; simp
    have hf : mhas c m = false := by rw [h.has, decide_eq_false hc]
    rw [decide_eq_false hc, ha]
    refine ⟨mput c (m.length : Int) m, ?_, ⟨?_, fun x => ?_, fun x hx => ?_⟩⟩
    · rw [if_pos (by decide), Option.bind_some, mgetN, if_pos rfl]
      unfold ixM
      rw [hi, h.len]
    · rw [mlenN c _ m hf, List.length_append, h.len]; rfl
    · rw [mhasN, h.has, Bool.eq_iff_iff]
      simp only [Bool.or_eq_true, decide_eq_true_eq, List.mem_append, List.mem_singleton]
      exact Or.comm
    · rw [mgetN]
      by_cases e : x = c
      · subst e; rw [if_pos rfl, hi, h.len]
      · rw [if_neg e]
        have hx2 : x ∈ met := by
          rcases List.mem_append.1 hx with h | h
          · exact h
          · exact absurd (List.mem_singleton.1 h) e
        rw [h.get x hx2, List.idxOf_append, if_pos hx2]
def rnL : List Int → List Int → List Tile → List Tile
  | _, _, [] => []
  | up, sd, t :: l => ⟨ixM (addM up t.N) t.N, ixM (addM sd t.E) t.E, ixM (addM (addM up t.N) t.S) t.S, ixM (addM (addM sd t.E) t.W) t.W⟩ :: rnL (addM (addM up t.N) t.S) (addM (addM sd t.E) t.W) l
def rn (l : List Tile) : List Tile := rnL [] [] l
theorem rnL_len : ∀ (l : List Tile) (up sd : List Int), (rnL up sd l).length = l.length
  | [], _, _ => rfl
  | t :: l, up, sd => by rw [rnL, List.length_cons, rnL_len l, List.length_cons]
theorem rn_len (l : List Tile) : (rn l).length = l.length := rnL_len l _ _
theorem rnL_l0 {s : List Tile} (hs : s.length ≤ 1000) : ∀ (d x k : Nat) (m1 m2 : List (Int × Int)) (up sd : List Int) (acc : List Tile), x + d = s.length → d < k → NM m1 up → NM m2 sd → acc.length ≤ x → census_renamed.l0 k m1 m2 acc x s = some (acc ++ rnL up sd (s.drop x))
  | 0, x, k, m1, m2, up, sd, acc, e, hk, h1, h2, ha => by
    obtain ⟨k, rfl⟩ : ∃ m, k = m + 1 := ⟨k - 1, by omega⟩
    rw [List.drop_of_length_le (by omega), census_renamed.l0, if_neg (by simp; omega), rnL, List.append_nil]
  | d + 1, x, k, m1, m2, up, sd, acc, e, hk, h1, h2, ha => by
    obtain ⟨k, rfl⟩ : ∃ m, k = m + 1 := ⟨k - 1, by omega⟩
    have hx : x < s.length := by omega
    have hwx : w64 ((x : Int) + 1) = ((x + 1 : Nat) : Int) := by rw [w64_id (by omega) (by omega)]; rfl
    obtain ⟨a1, e1, n1⟩ := of_ok h1 s[x].N
    obtain ⟨a2, e2, n2⟩ := of_ok h2 s[x].E
    obtain ⟨a3, e3, n3⟩ := of_ok n1 s[x].S
    obtain ⟨a4, e4, n4⟩ := of_ok n2 s[x].W
    rw [census_renamed.l0, if_pos (by simpa using hx), if_pos (by omega), rdD_get hx, e1, Option.bind_some, e2, Option.bind_some]
    simp only
    rw [e3, Option.bind_some, e4, Option.bind_some]
    simp only
    rw [if_pos (by show acc.length + 1 ≤ _; omega), hwx, rnL_l0 hs d (x + 1) k a3 a4 _ _ _ (by omega) (by omega) n3 n4 (by rw [List.length_append]; show acc.length + 1 ≤ _; omega), List.drop_eq_getElem_cons hx, rnL, List.append_assoc]
    rfl
theorem NM0 : NM [] [] := ⟨rfl, fun c => rfl, fun c h => by cases h⟩
theorem renamed_eq {s : List Tile} (hs : s.length ≤ 1000) {k : Nat} (hk : 2000 < k) : census_renamed k s = some (rn s) := by
  have h := rnL_l0 hs s.length 0 k [] [] [] [] [] (by omega) (by omega) NM0 NM0 (Nat.le_refl _)
  rw [List.drop_zero, List.nil_append] at h
  have h : census_renamed.l0 k [] [] [] 0 s = _ := h
  unfold census_renamed
  rw [h]; rfl
/-! the names do not matter -/
theorem idx_map {f : Int → Int} {P : Int → Prop} (hf : ∀ a b, P a → P b → f a = f b → a = b) : ∀ (met : List Int) (c : Int), (∀ x ∈ met, P x) → P c → (met.map f).idxOf (f c) = met.idxOf c
  | [], c, _, _ => rfl
  | a :: met, c, h, hc => by
    rw [List.map_cons, List.idxOf_cons, List.idxOf_cons, idx_map hf met c (fun x hx => h x (List.mem_cons_of_mem _ hx)) hc]
    by_cases e : a = c
    · subst e; simp
    · have : ¬ f a = f c := fun h2 => e (hf a c (h a List.mem_cons_self) hc h2)
      rw [beq_false_of_ne e, beq_false_of_ne this]
theorem mem_mapI {f : Int → Int} {P : Int → Prop} (hf : ∀ a b, P a → P b → f a = f b → a = b) {met : List Int} {c : Int} (h : ∀ x ∈ met, P x) (hc : P c) : f c ∈ met.map f ↔ c ∈ met := by
  rw [List.mem_map]
  exact ⟨fun ⟨x, hx, e⟩ => (hf x c (h x hx) hc e) ▸ hx, fun h => ⟨c, h, rfl⟩⟩
theorem addM_map {f : Int → Int} {P : Int → Prop} (hf : ∀ a b, P a → P b → f a = f b → a = b) {met : List Int} {c : Int} (h : ∀ x ∈ met, P x) (hc : P c) : addM (met.map f) (f c) = (addM met c).map f ∧ ∀ x ∈ addM met c, P x := by
  refine ⟨?_, fun x hx => ((addM_mem met c x).1 hx).elim (h x) fun e => e ▸ hc⟩
  unfold addM
  by_cases hm : c ∈ met
  · rw [if_pos hm, if_pos ((mem_mapI hf h hc).2 hm)]
  · rw [if_neg hm, if_neg (fun h2 => hm ((mem_mapI hf h hc).1 h2)), List.map_append]; rfl
def rT (f g : Int → Int) (t : Tile) : Tile := ⟨f t.N, g t.E, f t.S, g t.W⟩
theorem rnL_map {f g : Int → Int} {P Q : Int → Prop} (hf : ∀ a b, P a → P b → f a = f b → a = b) (hg : ∀ a b, Q a → Q b → g a = g b → a = b) : ∀ (l : List Tile) (up sd : List Int), (∀ x ∈ up, P x) → (∀ x ∈ sd, Q x) → (∀ t ∈ l, (P t.N ∧ P t.S) ∧ Q t.E ∧ Q t.W) → rnL (up.map f) (sd.map g) (l.map (rT f g)) = rnL up sd l
  | [], up, sd, _, _, _ => rfl
  | t :: l, up, sd, h1, h2, h3 => by
    obtain ⟨⟨p1, p2⟩, q1, q2⟩ := h3 t List.mem_cons_self
    obtain ⟨a1, b1⟩ := addM_map hf h1 p1
    obtain ⟨a2, b2⟩ := addM_map hf b1 p2
    obtain ⟨a3, b3⟩ := addM_map hg h2 q1
    obtain ⟨a4, b4⟩ := addM_map hg b3 q2
    rw [List.map_cons, rnL, rnL]
    show (⟨ixM (addM (up.map f) (f t.N)) (f t.N), ixM (addM (sd.map g) (g t.E)) (g t.E), ixM (addM (addM (up.map f) (f t.N)) (f t.S)) (f t.S), ixM (addM (addM (sd.map g) (g t.E)) (g t.W)) (g t.W)⟩ : Tile) :: rnL (addM (addM (up.map f) (f t.N)) (f t.S)) (addM (addM (sd.map g) (g t.E)) (g t.W)) (l.map (rT f g)) = _
    rw [a1, a3, a2, a4, rnL_map hf hg l _ _ b2 b4 fun u hu => h3 u (List.mem_cons_of_mem _ hu)]
    unfold ixM
    rw [idx_map hf _ _ b1 p1, idx_map hf _ _ b2 p2, idx_map hg _ _ b3 q1, idx_map hg _ _ b4 q2]
theorem rn_map {f g : Int → Int} {P Q : Int → Prop} (hf : ∀ a b, P a → P b → f a = f b → a = b) (hg : ∀ a b, Q a → Q b → g a = g b → a = b) {l : List Tile} (h : ∀ t ∈ l, (P t.N ∧ P t.S) ∧ Q t.E ∧ Q t.W) : rn (l.map (rT f g)) = rn l :=
  rnL_map hf hg l [] [] (fun _ h => by cases h) (fun _ h => by cases h) h
/-! what is renamed, told by two lists of colours -/
theorem rnL_form : ∀ (l : List Tile) (up sd : List Int), ∃ U V : List Int, (∀ x ∈ up, x ∈ U ∧ ixM U x = ixM up x) ∧ (∀ x ∈ sd, x ∈ V ∧ ixM V x = ixM sd x) ∧ (∀ t ∈ l, (t.N ∈ U ∧ t.S ∈ U) ∧ t.E ∈ V ∧ t.W ∈ V) ∧ rnL up sd l = l.map (rT (ixM U) (ixM V)) ∧ U.length ≤ up.length + 2 * l.length ∧ V.length ≤ sd.length + 2 * l.length
  | [], up, sd => ⟨up, sd, fun x h => ⟨h, rfl⟩, fun x h => ⟨h, rfl⟩, fun t h => (by cases h), rfl, by simp, by simp⟩
  | t :: l, up, sd => by
    obtain ⟨U, V, h1, h2, h3, h4, h5, h6⟩ := rnL_form l (addM (addM up t.N) t.S) (addM (addM sd t.E) t.W)
    have mN : t.N ∈ addM up t.N := (addM_mem ..).2 (.inr rfl)
    have mE : t.E ∈ addM sd t.E := (addM_mem ..).2 (.inr rfl)
    have mN2 : t.N ∈ addM (addM up t.N) t.S := (addM_mem ..).2 (.inl mN)
    have mE2 : t.E ∈ addM (addM sd t.E) t.W := (addM_mem ..).2 (.inl mE)
    have mS : t.S ∈ addM (addM up t.N) t.S := (addM_mem ..).2 (.inr rfl)
    have mW : t.W ∈ addM (addM sd t.E) t.W := (addM_mem ..).2 (.inr rfl)
    refine ⟨U, V, fun x hx => ?_, fun x hx => ?_, fun u hu => ?_, ?_, ?_, ?_⟩
    · have hx1 : x ∈ addM up t.N := (addM_mem ..).2 (.inl hx)
      obtain ⟨a, b⟩ := h1 x ((addM_mem ..).2 (.inl hx1))
      exact ⟨a, by rw [b, ixM_add _ hx1, ixM_add _ hx]⟩
    · have hx1 : x ∈ addM sd t.E := (addM_mem ..).2 (.inl hx)
      obtain ⟨a, b⟩ := h2 x ((addM_mem ..).2 (.inl hx1))
      exact ⟨a, by rw [b, ixM_add _ hx1, ixM_add _ hx]⟩
    · rcases List.mem_cons.1 hu with rfl | hu
      · exact ⟨⟨(h1 _ mN2).1, (h1 _ mS).1⟩, (h2 _ mE2).1, (h2 _ mW).1⟩
      · exact h3 u hu
    · rw [rnL, h4, List.map_cons]
      unfold rT
      rw [(h1 _ mN2).2, (h1 _ mS).2, (h2 _ mE2).2, (h2 _ mW).2, ixM_add _ mN, ixM_add _ mE]
    · have := addM_len up t.N; have := addM_len (addM up t.N) t.S
      rw [List.length_cons]; omega
    · have := addM_len sd t.E; have := addM_len (addM sd t.E) t.W
      rw [List.length_cons]; omega
theorem ixM_inj {U : List Int} {a b : Int} (ha : a ∈ U) (hb : b ∈ U) (h : ixM U a = ixM U b) : a = b := by
  unfold ixM at h
  have h : U.idxOf a = U.idxOf b := by omega
  have la := List.idxOf_lt_length_of_mem ha
  have lb := List.idxOf_lt_length_of_mem hb
  have e1 := List.getElem_idxOf la
  have e2 := List.getElem_idxOf lb
  rw [← e1, ← e2]
  congr 1
theorem rn_form (l : List Tile) : ∃ U V : List Int, (∀ t ∈ l, (t.N ∈ U ∧ t.S ∈ U) ∧ t.E ∈ V ∧ t.W ∈ V) ∧ rn l = l.map (rT (ixM U) (ixM V)) ∧ U.length ≤ 2 * l.length ∧ V.length ≤ 2 * l.length := by
  obtain ⟨U, V, _, _, h3, h4, h5, h6⟩ := rnL_form l [] []
  exact ⟨U, V, h3, h4, by simpa using h5, by simpa using h6⟩
end Gp
set_option linter.unusedVariables false
set_option linter.unusedSimpArgs false
namespace Gp
open Gw Gq
/-! ### the order of sets -/
def numL (s : List Tile) : List Int := s.flatMap fun t => [t.N, t.E, t.S, t.W]
theorem numL_inj : ∀ {a b : List Tile}, numL a = numL b → a = b
  | [], [], _ => rfl
  | [], _ :: _, h => by simp [numL] at h
  | _ :: _, [], h => by simp [numL] at h
  | x :: a, y :: b, h => by
    simp only [numL, List.flatMap_cons, List.cons_append, List.nil_append, List.cons.injEq] at h
    obtain ⟨h1, h2, h3, h4, h5⟩ := h
    rw [numL_inj (a := a) (b := b) h5]
    cases x; cases y
    simp only at h1 h2 h3 h4
    rw [h1, h2, h3, h4]
theorem numL_len : ∀ s : List Tile, (numL s).length = 4 * s.length
  | [] => rfl
  | t :: s => by
    show ([t.N, t.E, t.S, t.W] ++ numL s).length = 4 * (s.length + 1)
    rw [List.length_append, numL_len s]
    show 4 + 4 * s.length = _
    omega
theorem num_l0 {s : List Tile} (hs : s.length ≤ 1000) : ∀ (d x k : Nat) (acc : List Int), x + d = s.length → d < k → acc.length ≤ 4 * x → census_numbers.l0 k acc x s = some (acc ++ numL (s.drop x))
  | 0, x, k, acc, e, hk, ha => by
    obtain ⟨k, rfl⟩ : ∃ m, k = m + 1 := ⟨k - 1, by omega⟩
    rw [List.drop_of_length_le (by omega), census_numbers.l0, if_neg (by simp; omega)]
    show _ = some (acc ++ [])
    rw [List.append_nil]
  | d + 1, x, k, acc, e, hk, ha => by
    obtain ⟨k, rfl⟩ : ∃ m, k = m + 1 := ⟨k - 1, by omega⟩
    have hx : x < s.length := by omega
    have hwx : w64 ((x : Int) + 1) = ((x + 1 : Nat) : Int) := by rw [w64_id (by omega) (by omega)]; rfl
    rw [census_numbers.l0, if_pos (by simpa using hx), if_pos (by omega), rdD_get hx, if_pos (by show acc.length + 4 ≤ _; omega), hwx, num_l0 hs d (x + 1) k _ (by omega) (by omega) (by rw [List.length_append]; show acc.length + 4 ≤ _; omega), List.drop_eq_getElem_cons hx, List.append_assoc]
    rfl
theorem numbers_eq {s : List Tile} (hs : s.length ≤ 1000) {k : Nat} (hk : 2000 < k) : census_numbers k s = some (numL s) := by
  have h := num_l0 hs s.length 0 k [] (by omega) (by omega) (by simp)
  rw [List.drop_zero, List.nil_append] at h
  have h : census_numbers.l0 k [] 0 s = _ := h
  unfold census_numbers
  rw [h]; rfl
def ltL : List Int → List Int → Bool
  | _, [] => false
  | [], _ :: _ => true
  | x :: a, y :: b => decide (x < y) || (decide (x = y) && ltL a b)
theorem ltL_irr : ∀ a : List Int, ltL a a = false
  | [] => rfl
  | x :: a => by
    rw [ltL, ltL_irr a]
    simp
theorem ltL_trans : ∀ a b c : List Int, ltL a b = true → ltL b c = true → ltL a c = true
  | a, [], c, h, _ => by cases a <;> cases h
  | _, _ :: _, [], _, h => by cases h
  | [], _ :: _, _ :: _, _, _ => rfl
  | x :: a, y :: b, z :: c, h1, h2 => by
    rw [ltL, Bool.or_eq_true, Bool.and_eq_true, decide_eq_true_eq, decide_eq_true_eq] at h1 h2 ⊢
    rcases h1 with h1 | ⟨e1, h1⟩
    · rcases h2 with h2 | ⟨e2, h2⟩
      · left; omega
      · left; omega
    · rcases h2 with h2 | ⟨e2, h2⟩
      · left; omega
      · exact .inr ⟨by omega, ltL_trans a b c h1 h2⟩
theorem ltL_tot : ∀ a b : List Int, a = b ∨ ltL a b = true ∨ ltL b a = true
  | [], [] => .inl rfl
  | [], _ :: _ => .inr (.inl rfl)
  | _ :: _, [] => .inr (.inr rfl)
  | x :: a, y :: b => by
    rw [ltL, ltL]
    simp only [Bool.or_eq_true, Bool.and_eq_true, decide_eq_true_eq]
    rcases Int.lt_trichotomy x y with h | h | h
    · exact .inr (.inl (.inl h))
    · subst h
      rcases ltL_tot a b with h | h | h
      · exact .inl (by rw [h])
      · exact .inr (.inl (.inr ⟨rfl, h⟩))
      · exact .inr (.inr (.inr ⟨rfl, h⟩))
    · exact .inr (.inr (.inl h))
theorem cmp_int (x y : Int) : cmp_Compare_int x y = some (if x < y then -1 else if x > y then 1 else 0) := by
  unfold cmp_Compare_int cmp_isNaN_int
  rw [bne_self_eq_false, bne_self_eq_false, Option.bind_some, Option.bind_some, if_neg (by decide), if_neg (by decide)]
  by_cases h : x < y
  · rw [if_pos h, if_pos (decide_eq_true h)]
  · rw [if_neg h, if_neg (by simpa using h)]
    by_cases h2 : x > y
    · rw [if_pos h2, if_pos (decide_eq_true h2)]
    · rw [if_neg h2, if_neg (by simpa using h2)]
theorem cmp_l0 {a b : List Int} (ha : a.length ≤ 100000) (hb : b.length ≤ 100000) : ∀ (d x k : Nat), x + d = a.length → d < k → x ≤ b.length →
    (∃ r : Int, slices_Compare_int_int.l0 k x a b = some (.inl r) ∧ (r < 0 ↔ ltL (a.drop x) (b.drop x) = true) ∧ r ≠ 0 ∧ a.drop x ≠ b.drop x) ∨ (slices_Compare_int_int.l0 k x a b = some (.inr ()) ∧ (a.length < b.length ↔ ltL (a.drop x) (b.drop x) = true) ∧ (a.drop x = b.drop x ↔ ¬ a.length < b.length))
  | 0, x, k, e, hk, hx => by
    obtain ⟨k, rfl⟩ : ∃ m, k = m + 1 := ⟨k - 1, by omega⟩
    rw [List.drop_of_length_le (l := a) (by omega), slices_Compare_int_int.l0, if_neg (by simp; omega)]
    refine .inr ⟨rfl, ?_, ?_⟩
    · cases h : b.drop x with
      | nil =>
        have := congrArg List.length h
        rw [List.length_drop, List.length_nil] at this
        exact ⟨fun h => by omega, fun h => by cases h⟩
      | cons y l =>
        have := congrArg List.length h
        rw [List.length_drop, List.length_cons] at this
        exact ⟨fun _ => rfl, fun _ => by omega⟩
    · constructor
      · intro h
        have := congrArg List.length h
        rw [List.length_drop, List.length_nil] at this
        omega
      · intro h
        rw [List.drop_of_length_le (by omega)]
  | d + 1, x, k, e, hk, hx => by
    obtain ⟨k, rfl⟩ : ∃ m, k = m + 1 := ⟨k - 1, by omega⟩
    have hxa : x < a.length := by omega
    have hwx : w64 ((x : Int) + 1) = ((x + 1 : Nat) : Int) := by rw [w64_id (by omega) (by omega)]; rfl
    rw [slices_Compare_int_int.l0, if_pos (by simpa using hxa), if_pos (by omega), List.drop_eq_getElem_cons hxa]
    by_cases hxb : x < b.length
    · rw [if_neg (by rw [decide_eq_true_eq]; omega), if_pos (by omega), rdD_get hxa, rdD_get hxb, cmp_int, Option.bind_some, hwx, List.drop_eq_getElem_cons hxb, ltL]
      rcases Int.lt_trichotomy a[x] b[x] with h | h | h
      · have hv : (if a[x] < b[x] then (-1 : Int) else if a[x] > b[x] then 1 else 0) = -1 := if_pos h
        rw [hv, if_pos (by decide)]
        refine .inl ⟨-1, rfl, ?_, by omega, fun h2 => ?_⟩
        · simp [h]
        · injection h2 with h2 _; omega
      · have hv : (if a[x] < b[x] then (-1 : Int) else if a[x] > b[x] then 1 else 0) = 0 := by rw [if_neg (by omega), if_neg (by omega)]
        rw [hv, if_neg (by decide)]
        rcases cmp_l0 ha hb d (x + 1) k (by omega) (by omega) (by omega) with ⟨r, g1, g2, g3, g4⟩ | ⟨g1, g2, g3⟩
        · refine .inl ⟨r, g1, ?_, g3, fun h2 => ?_⟩
          · rw [g2]; simp [h]
          · injection h2 with _ h2; exact g4 h2
        · refine .inr ⟨g1, ?_, ?_⟩
          · rw [g2]; simp [h]
          · rw [← g3, h]
            exact ⟨fun h => (by injection h), fun h => by rw [h]⟩
      · have hv : (if a[x] < b[x] then (-1 : Int) else if a[x] > b[x] then 1 else 0) = 1 := by rw [if_neg (by omega), if_pos h]
        rw [hv, if_pos (by decide)]
        refine .inl ⟨1, rfl, ?_, by omega, fun h2 => ?_⟩
        · simp only [Bool.or_eq_true, Bool.and_eq_true, decide_eq_true_eq]
          exact ⟨fun h => by omega, fun h => by omega⟩
        · injection h2 with h2 _; omega
    · rw [if_pos (by rw [decide_eq_true_eq]; omega)]
      refine .inl ⟨1, rfl, ?_, by omega, fun h2 => ?_⟩
      · rw [List.drop_of_length_le (l := b) (by omega), ltL]; simp
      · rw [List.drop_of_length_le (l := b) (by omega)] at h2; cases h2
theorem compare_eq {a b : List Int} (ha : a.length ≤ 100000) (hb : b.length ≤ 100000) {k : Nat} (hk : 200000 < k) : ∃ r : Int, slices_Compare_int_int k a b = some r ∧ (r < 0 ↔ ltL a b = true) ∧ (r = 0 ↔ a = b) := by
  have h := cmp_l0 ha hb a.length 0 k (by omega) (by omega) (by omega)
  rw [List.drop_zero, List.drop_zero] at h
  have h : (∃ r : Int, slices_Compare_int_int.l0 k 0 a b = some (.inl r) ∧ _ ∧ _ ∧ _) ∨ (slices_Compare_int_int.l0 k 0 a b = some (.inr ()) ∧ _ ∧ _) := h
  unfold slices_Compare_int_int
  rcases h with ⟨r, h1, h2, h3, h4⟩ | ⟨h1, h2, h3⟩
  · rw [h1]
    exact ⟨r, rfl, h2, fun h => absurd h h3, fun h => absurd h h4⟩
  · rw [h1]
    by_cases hl : a.length < b.length
    · refine ⟨-1, ?_, ⟨fun _ => h2.1 hl, fun _ => by omega⟩, fun h => by omega, fun h => absurd hl (h3.1 h)⟩
      show (if decide _ = true then _ else _) = _
      rw [if_pos (by rw [decide_eq_true_eq]; omega)]
    · refine ⟨0, ?_, ⟨fun h => by omega, fun h => absurd (h2.2 h) hl⟩, fun _ => h3.2 hl, fun _ => rfl⟩
      show (if decide _ = true then _ else _) = _
      rw [if_neg (by rw [decide_eq_true_eq]; omega)]
def befB (a b : List Tile) : Bool := ltL (numL a) (numL b)
theorem before_eq {a b : List Tile} (ha : a.length ≤ 1000) (hb : b.length ≤ 1000) {k : Nat} (hk : 200000 < k) : ∃ r : Int, census_before k a b = some r ∧ (r < 0 ↔ befB a b = true) ∧ (r = 0 ↔ a = b) := by
  obtain ⟨r, h1, h2, h3⟩ := compare_eq (a := numL a) (b := numL b) (by rw [numL_len]; omega) (by rw [numL_len]; omega) hk
  refine ⟨r, ?_, h2, h3.trans ⟨numL_inj, fun h => by rw [h]⟩⟩
  unfold census_before
  rw [numbers_eq ha (by omega), numbers_eq hb (by omega), Option.bind_some, Option.bind_some, h1]; rfl
/-! ### orders, the least form -/
def ordL : List Tile → List (List Tile)
  | [] => [[]]
  | [a] => [[a]]
  | [a, b] => [[a, b], [b, a]]
  | [a, b, c] => [[a, b, c], [a, c, b], [b, a, c], [b, c, a], [c, b, a], [c, a, b]]
  | _ => []
def minF (m y : List Tile) : List Tile := if befB (rn y) m = true then rn y else m
def canF (s : List Tile) : List Tile := match ordL s with
  | [] => []
  | x :: xs => xs.foldl minF (rn x)
theorem step_b1 {x l : List Tile} {b : Bool} (hx : x.length ≤ 1000) (hl : l.length ≤ 1000) (h : b = false → l ≠ []) {k : Nat} (hk : 200000 < k) : census_least.b1 k x ((b, l), 0) = some (((false, if b = true then rn x else minF l x), 0), true) := by
  unfold census_least.b1
  show (if (0 : Int) = 0 then _ else none) = _
  rw [if_pos rfl, renamed_eq hx (by omega), Option.bind_some]
  unfold nilM
  cases b
  · rw [if_neg (by decide), if_neg (by rw [List.isEmpty_iff]; exact h rfl)]
    obtain ⟨r, h1, h2, _⟩ := before_eq (a := rn x) (b := l) (by rw [rn_len]; exact hx) hl hk
    rw [h1, Option.bind_some]
    unfold minF
    by_cases hb : befB (rn x) l = true
    · rw [if_pos (decide_eq_true (h2.2 hb)), if_pos hb]; rfl
    · rw [if_neg (by rw [decide_eq_true_eq, h2]; exact hb), if_neg hb]; rfl
  · rw [if_pos rfl, if_pos rfl]
end Gp
set_option linter.unusedVariables false
set_option linter.unusedSimpArgs false
namespace Gp
open Gw Gq
section
variable {σ : Type} {yf : List Tile → σ → Option (σ × Bool)}
theorem ord_end {l : List Tile} {n : Int} (hn : n = (l.length : Int)) {s t : σ} (h : yf l s = some (t, true)) (k : Nat) : census_orders_1_1_y (k + 1) n l yf s = some (true, l, t) := by
  rw [census_orders_1_1_y, if_pos (by rw [hn]; exact beq_self_eq_true _), h]; rfl
theorem l0_end {l : List Tile} {x p : Int} (hx : x = (l.length : Int)) (s : σ) (rc : Int → List Tile → (List Tile → σ → Option (σ × Bool)) → σ → Option (Bool × List Tile × σ)) (k : Nat) : census_orders_1_1_y.l0 (k + 1) l x s p yf rc = some (.inr (l, s)) := by
  rw [census_orders_1_1_y.l0, if_neg (by rw [decide_eq_true_eq]; omega)]
def swp (l : List Tile) (p x : Nat) : List Tile := (l.set p (rdD l (x : Int) z_Tile)).set x (rdD l (p : Int) z_Tile)
theorem l0_step {l m : List Tile} {p x : Nat} (hp : p < l.length) (hx : x < l.length) (hm : m.length = l.length) (hl : l.length ≤ 100) {s t : σ} {rc : Int → List Tile → (List Tile → σ → Option (σ × Bool)) → σ → Option (Bool × List Tile × σ)} (h : rc ((p + 1 : Nat) : Int) (swp l p x) yf s = some (true, m, t)) (k : Nat) : census_orders_1_1_y.l0 (k + 1) l (x : Int) s (p : Int) yf rc = census_orders_1_1_y.l0 k (swp m p x) ((x + 1 : Nat) : Int) t (p : Int) yf rc := by
  have hwx : w64 ((x : Int) + 1) = ((x + 1 : Nat) : Int) := by rw [w64_id (by omega) (by omega)]; rfl
  have hwp : w64 ((p : Int) + 1) = ((p + 1 : Nat) : Int) := by rw [w64_id (by omega) (by omega)]; rfl
  rw [census_orders_1_1_y.l0, if_pos (by simpa using hx), if_pos (by omega), if_pos (by omega), if_pos (by rw [List.length_set]; omega), hwp, hwx, Int.toNat_natCast, Int.toNat_natCast]
  have h : rc ((p + 1 : Nat) : Int) ((l.set p (rdD l (x : Int) z_Tile)).set x (rdD l (p : Int) z_Tile)) yf s = some (true, m, t) := h
  rw [h, Option.bind_some]
  simp only
  rw [if_pos (by omega), if_pos (by omega), if_pos (by rw [List.length_set]; omega), if_neg (by decide)]
  rfl
theorem ord_go {l : List Tile} {p : Int} (hp : p ≠ (l.length : Int)) {s t : σ} {k : Nat} (h : census_orders_1_1_y.l0 k l p s p yf (census_orders_1_1_y k) = some (.inr (l, t))) : census_orders_1_1_y (k + 1) p l yf s = some (true, l, t) := by
  rw [census_orders_1_1_y, if_neg (by rw [beq_iff_eq]; exact hp), h]; rfl
theorem ord1 {a : Tile} {s t : σ} (h : yf [a] s = some (t, true)) (k : Nat) : census_orders_1_1_y (k + 4) 0 [a] yf s = some (true, [a], t) := by
  refine ord_go (by show (0 : Int) ≠ 1; decide) ?_
  have e := l0_step (l := [a]) (m := [a]) (p := 0) (x := 0) (yf := yf) (rc := census_orders_1_1_y (k + 3)) (by simp) (by simp) rfl (by simp) (ord_end (l := [a]) (n := 1) rfl h _) (k + 2)
  exact e.trans (l0_end rfl _ _ _)
theorem o2_1 {a b : Tile} {s t : σ} (h : yf [a, b] s = some (t, true)) (k : Nat) : census_orders_1_1_y (k + 4) 1 [a, b] yf s = some (true, [a, b], t) := by
  refine ord_go (by show (1 : Int) ≠ 2; decide) ?_
  have e := l0_step (l := [a, b]) (m := [a, b]) (p := 1) (x := 1) (yf := yf) (rc := census_orders_1_1_y (k + 3)) (by simp) (by simp) rfl (by simp) (ord_end (l := [a, b]) (n := 2) rfl h _) (k + 2)
  exact e.trans (l0_end rfl _ _ _)
theorem ord2 {a b : Tile} {s t u : σ} (h1 : yf [a, b] s = some (t, true)) (h2 : yf [b, a] t = some (u, true)) (k : Nat) : census_orders_1_1_y (k + 6) 0 [a, b] yf s = some (true, [a, b], u) := by
  refine ord_go (by show (0 : Int) ≠ 2; decide) ?_
  have e1 := l0_step (l := [a, b]) (m := [a, b]) (p := 0) (x := 0) (yf := yf) (rc := census_orders_1_1_y (k + 5)) (by simp) (by simp) rfl (by simp) (o2_1 h1 (k + 1)) (k + 4)
  have e2 := l0_step (l := [a, b]) (m := [b, a]) (p := 0) (x := 1) (yf := yf) (rc := census_orders_1_1_y (k + 5)) (by simp) (by simp) rfl (by simp) (o2_1 h2 (k + 1)) (k + 3)
  exact e1.trans (e2.trans (l0_end rfl _ _ _))
theorem o3_2 {a b c : Tile} {s t : σ} (h : yf [a, b, c] s = some (t, true)) (k : Nat) : census_orders_1_1_y (k + 4) 2 [a, b, c] yf s = some (true, [a, b, c], t) := by
  refine ord_go (by show (2 : Int) ≠ 3; decide) ?_
  have e := l0_step (l := [a, b, c]) (m := [a, b, c]) (p := 2) (x := 2) (yf := yf) (rc := census_orders_1_1_y (k + 3)) (by simp) (by simp) rfl (by simp) (ord_end (l := [a, b, c]) (n := 3) rfl h _) (k + 2)
  exact e.trans (l0_end rfl _ _ _)
theorem o3_1 {a b c : Tile} {s t u : σ} (h1 : yf [a, b, c] s = some (t, true)) (h2 : yf [a, c, b] t = some (u, true)) (k : Nat) : census_orders_1_1_y (k + 6) 1 [a, b, c] yf s = some (true, [a, b, c], u) := by
  refine ord_go (by show (1 : Int) ≠ 3; decide) ?_
  have e1 := l0_step (l := [a, b, c]) (m := [a, b, c]) (p := 1) (x := 1) (yf := yf) (rc := census_orders_1_1_y (k + 5)) (by simp) (by simp) rfl (by simp) (o3_2 h1 (k + 1)) (k + 4)
  have e2 := l0_step (l := [a, b, c]) (m := [a, c, b]) (p := 1) (x := 2) (yf := yf) (rc := census_orders_1_1_y (k + 5)) (by simp) (by simp) rfl (by simp) (o3_2 h2 (k + 1)) (k + 3)
  exact e1.trans (e2.trans (l0_end rfl _ _ _))
theorem ord3 {a b c : Tile} {s0 s1 s2 s3 s4 s5 s6 : σ} (h1 : yf [a, b, c] s0 = some (s1, true)) (h2 : yf [a, c, b] s1 = some (s2, true)) (h3 : yf [b, a, c] s2 = some (s3, true)) (h4 : yf [b, c, a] s3 = some (s4, true)) (h5 : yf [c, b, a] s4 = some (s5, true)) (h6 : yf [c, a, b] s5 = some (s6, true)) (k : Nat) : census_orders_1_1_y (k + 8) 0 [a, b, c] yf s0 = some (true, [a, b, c], s6) := by
  refine ord_go (by show (0 : Int) ≠ 3; decide) ?_
  have e1 := l0_step (l := [a, b, c]) (m := [a, b, c]) (p := 0) (x := 0) (yf := yf) (rc := census_orders_1_1_y (k + 7)) (by simp) (by simp) rfl (by simp) (o3_1 h1 h2 (k + 1)) (k + 6)
  have e2 := l0_step (l := [a, b, c]) (m := [b, a, c]) (p := 0) (x := 1) (yf := yf) (rc := census_orders_1_1_y (k + 7)) (by simp) (by simp) rfl (by simp) (o3_1 h3 h4 (k + 1)) (k + 5)
  have e3 := l0_step (l := [a, b, c]) (m := [c, b, a]) (p := 0) (x := 2) (yf := yf) (rc := census_orders_1_1_y (k + 7)) (by simp) (by simp) rfl (by simp) (o3_1 h5 h6 (k + 1)) (k + 4)
  exact e1.trans (e2.trans (e3.trans (l0_end rfl _ _ _)))
end
theorem minF_ne {m y : List Tile} (hm : m ≠ []) (hy : y ≠ []) : minF m y ≠ [] := by
  unfold minF
  split
  · intro h
    have := congrArg List.length h
    rw [rn_len] at this
    exact hy (List.eq_nil_of_length_eq_zero this)
  · exact hm
theorem minF_len {m y : List Tile} {n : Nat} (hm : m.length ≤ n) (hy : y.length ≤ n) : (minF m y).length ≤ n := by
  unfold minF
  split
  · rw [rn_len]; exact hy
  · exact hm
theorem rn_ne {y : List Tile} (hy : y ≠ []) : rn y ≠ [] := fun h => by
  have := congrArg List.length h
  rw [rn_len] at this
  exact hy (List.eq_nil_of_length_eq_zero this)
theorem b1_first (x : List Tile) (hx : x.length ≤ 3) {k : Nat} (hk : 200000 < k) : census_least.b1 k x ((true, []), 0) = some (((false, rn x), 0), true) := by
  have := step_b1 (x := x) (l := []) (b := true) (by omega) (by simp) (fun h => by cases h) hk
  rw [if_pos rfl] at this; exact this
theorem b1_next {x l : List Tile} (hx : x.length ≤ 3) (hl : l.length ≤ 3) (h : l ≠ []) {k : Nat} (hk : 200000 < k) : census_least.b1 k x ((false, l), 0) = some (((false, minF l x), 0), true) := by
  have := step_b1 (x := x) (l := l) (b := false) (by omega) (by omega) (fun _ => h) hk
  rw [if_neg (by decide)] at this; exact this
theorem orders_y {σ : Type} {s : List Tile} {yf : List Tile → σ → Option (σ × Bool)} {a b : σ} (hs : s.length ≤ 1000) {k : Nat} (h : census_orders_1_1_y k 0 s yf a = some (true, s, b)) : census_orders_1_y k s yf a = some b := by
  have hc : slices_Clone_api_Tile_api_Tile s = some s := by
    show (if ([] : List Tile).length + s.length ≤ 100000000000 then some ([] ++ s) else none) = _
    rw [if_pos (by rw [List.length_nil]; omega), List.nil_append]
  unfold census_orders_1_y
  rw [hc, Option.bind_some, h]; rfl
theorem canF3 (a b c : Tile) : canF [a, b, c] = minF (minF (minF (minF (minF (rn [a, b, c]) [a, c, b]) [b, a, c]) [b, c, a]) [c, b, a]) [c, a, b] := by
  unfold canF ordL
  simp only [List.foldl_cons, List.foldl_nil]
theorem least_eqN {s : List Tile} (hs : s.length ≤ 3) (k : Nat) : census_least (k + 300000) s = some (canF s) := by
  have key : ∀ r, census_orders_1_y (k + 300000) s (census_least.b1 (k + 300000)) ((true, []), 0) = some ((false, r), 0) → census_least (k + 300000) s = some r := fun r h => by
    unfold census_least
    show ((census_orders_1_y (k + 300000) s (census_least.b1 (k + 300000)) ((true, []), 0)).bind _) = _
    rw [h]; rfl
  refine key _ (orders_y (by omega) ?_)
  match s, hs with
  | [], _ => exact ord_end rfl (b1_first [] (by simp) (by omega)) (k + 299999)
  | [a], _ => exact ord1 (b1_first [a] (by simp) (by omega)) (k + 299996)
  | [a, b], _ =>
    exact ord2 (b1_first [a, b] (by simp) (by omega)) (b1_next (by simp) (by rw [rn_len]; simp) (rn_ne (by simp)) (by omega)) (k + 299994)
  | [a, b, c], _ =>
    have l1 : (rn [a, b, c]).length ≤ 3 := by rw [rn_len]; simp
    have n1 : rn [a, b, c] ≠ [] := rn_ne (by simp)
    have l2 := minF_len (y := [a, c, b]) l1 (by simp)
    have n2 := minF_ne (y := [a, c, b]) n1 (by simp)
    have l3 := minF_len (y := [b, a, c]) l2 (by simp)
    have n3 := minF_ne (y := [b, a, c]) n2 (by simp)
    have l4 := minF_len (y := [b, c, a]) l3 (by simp)
    have n4 := minF_ne (y := [b, c, a]) n3 (by simp)
    have l5 := minF_len (y := [c, b, a]) l4 (by simp)
    have n5 := minF_ne (y := [c, b, a]) n4 (by simp)
    have h1 := b1_first [a, b, c] (by simp) (k := k + 300000) (by omega)
    have h2 := b1_next (x := [a, c, b]) (by simp) l1 n1 (k := k + 300000) (by omega)
    have h3 := b1_next (x := [b, a, c]) (by simp) l2 n2 (k := k + 300000) (by omega)
    have h4 := b1_next (x := [b, c, a]) (by simp) l3 n3 (k := k + 300000) (by omega)
    have h5 := b1_next (x := [c, b, a]) (by simp) l4 n4 (k := k + 300000) (by omega)
    have h6 := b1_next (x := [c, a, b]) (by simp) l5 n5 (k := k + 300000) (by omega)
    have h := ord3 h1 h2 h3 h4 h5 h6 (k + 299992)
    rw [show canF [a, b, c] = minF (minF (minF (minF (minF (rn [a, b, c]) [a, c, b]) [b, a, c]) [b, c, a]) [c, b, a]) [c, a, b] from canF3 a b c]
    rw [show k + 299992 + 8 = k + 300000 from rfl] at h
    exact h
/-! the least one, whatever the order -/
theorem fold_min : ∀ (L : List (List Tile)) (m : List Tile), (L.foldl minF m = m ∨ ∃ y ∈ L, L.foldl minF m = rn y) ∧ befB m (L.foldl minF m) = false ∧ ∀ y ∈ L, befB (rn y) (L.foldl minF m) = false
  | [], m => ⟨.inl rfl, ltL_irr _, fun y h => by cases h⟩
  | x :: L, m => by
    rw [List.foldl_cons]
    obtain ⟨h1, h2, h3⟩ := fold_min L (minF m x)
    have hle : befB m (L.foldl minF (minF m x)) = false ∧ befB (rn x) (L.foldl minF (minF m x)) = false := by
      by_cases hb : befB (rn x) m = true
      · have e : minF m x = rn x := by unfold minF; rw [if_pos hb]
        rw [e] at h2 ⊢
        refine ⟨?_, h2⟩
        cases hm : befB m (L.foldl minF (rn x))
        · rfl
        · have := ltL_trans _ _ _ hb hm
          rw [show ltL (numL (rn x)) (numL (L.foldl minF (rn x))) = befB (rn x) (L.foldl minF (rn x)) from rfl, h2] at this
          cases this
      · have e : minF m x = m := by unfold minF; rw [if_neg hb]
        rw [e] at h2 ⊢
        refine ⟨h2, ?_⟩
        cases hm : befB (rn x) (L.foldl minF m)
        · rfl
        · exfalso
          rcases ltL_tot (numL m) (numL (L.foldl minF m)) with h | h | h
          · have hm : ltL (numL (rn x)) (numL (L.foldl minF m)) = true := hm
            rw [← h] at hm; exact hb hm
          · have h2 : ltL (numL m) (numL (L.foldl minF m)) = false := h2
            rw [h2] at h; cases h
          · exact hb (ltL_trans _ _ _ hm h)
    refine ⟨?_, hle.1, fun y hy => ?_⟩
    · rcases h1 with h1 | ⟨y, hy, h1⟩
      · rw [h1]
        unfold minF
        split
        · exact .inr ⟨x, List.mem_cons_self, rfl⟩
        · exact .inl rfl
      · exact .inr ⟨y, List.mem_cons_of_mem _ hy, h1⟩
    · rcases List.mem_cons.1 hy with rfl | hy
      · exact hle.2
      · exact h3 y hy
theorem canF_spec {s : List Tile} (hs : s.length ≤ 3) : (∃ y ∈ ordL s, canF s = rn y) ∧ ∀ y ∈ ordL s, befB (rn y) (canF s) = false := by
  unfold canF
  cases h : ordL s with
  | nil => match s, hs, h with
    | [], _, h => cases h
    | [_], _, h => cases h
    | [_, _], _, h => cases h
    | [_, _, _], _, h => cases h
  | cons x xs =>
    obtain ⟨h1, h2, h3⟩ := fold_min xs (rn x)
    refine ⟨?_, fun y hy => ?_⟩
    · rcases h1 with h1 | ⟨y, hy, h1⟩
      · exact ⟨x, List.mem_cons_self, h1⟩
      · exact ⟨y, List.mem_cons_of_mem _ hy, h1⟩
    · rcases List.mem_cons.1 hy with rfl | hy
      · exact h2
      · exact h3 y hy
theorem canF_same {s s' : List Tile} (hs : s.length ≤ 3) (hs' : s'.length ≤ 3) (h1 : ∀ y ∈ ordL s, ∃ z ∈ ordL s', rn y = rn z) (h2 : ∀ z ∈ ordL s', ∃ y ∈ ordL s, rn z = rn y) : canF s = canF s' := by
  obtain ⟨⟨y, hy, ey⟩, my⟩ := canF_spec hs
  obtain ⟨⟨z, hz, ez⟩, mz⟩ := canF_spec hs'
  obtain ⟨z', hz', e1⟩ := h1 y hy
  obtain ⟨y', hy', e2⟩ := h2 z hz
  have a1 := mz z' hz'
  have a2 := my y' hy'
  rw [← e1, ← ey] at a1
  rw [← e2, ← ez] at a2
  rcases ltL_tot (numL (canF s)) (numL (canF s')) with h | h | h
  · exact numL_inj h
  · have a1 : ltL (numL (canF s)) (numL (canF s')) = false := a1
    rw [a1] at h; cases h
  · have a2 : ltL (numL (canF s')) (numL (canF s)) = false := a2
    rw [a2] at h; cases h
theorem ordL_map (f : Tile → Tile) {s : List Tile} (hs : s.length ≤ 3) : ordL (s.map f) = (ordL s).map (List.map f) := by
  match s, hs with
  | [], _ => rfl
  | [_], _ => rfl
  | [_, _], _ => rfl
  | [_, _, _], _ => rfl
theorem ordL_mem {s y : List Tile} (hs : s.length ≤ 3) (h : y ∈ ordL s) : y.Perm s := by
  match s, hs with
  | [], _ => have h : y ∈ [[]] := h; rw [List.mem_singleton] at h; rw [h]
  | [a], _ => have h : y ∈ [[a]] := h; rw [List.mem_singleton] at h; rw [h]
  | [a, b], _ =>
    have h : y ∈ [[a, b], [b, a]] := h
    simp only [List.mem_cons, List.not_mem_nil, or_false] at h
    rcases h with rfl | rfl
    · exact List.Perm.refl _
    · exact List.Perm.swap _ _ _
  | [a, b, c], _ =>
    have h : y ∈ [[a, b, c], [a, c, b], [b, a, c], [b, c, a], [c, b, a], [c, a, b]] := h
    simp only [List.mem_cons, List.not_mem_nil, or_false] at h
    rcases h with rfl | rfl | rfl | rfl | rfl | rfl
    · exact List.Perm.refl _
    · exact (List.Perm.swap _ _ _).cons _
    · exact List.Perm.swap _ _ _
    · exact ((List.Perm.swap _ _ _).cons _).trans (List.Perm.swap _ _ _)
    · exact (List.Perm.swap _ _ _).trans (((List.Perm.swap _ _ _).cons _).trans (List.Perm.swap _ _ _))
    · exact (List.Perm.swap _ _ _).trans ((List.Perm.swap _ _ _).cons _)
end Gp
set_option linter.unusedVariables false
set_option linter.unusedSimpArgs false
namespace Gp
open Gw Gq
theorem vN_iff (s : List Tile) : validT s = true ↔ s.length ≤ 1000 ∧ s.Nodup ∧ ∀ t ∈ s, colB t = true := by
  unfold validT
  simp only [Bool.and_eq_true, decide_eq_true_eq, List.all_eq_true, List.mem_range]
  have hg : ∀ i (h : i < s.length), s.getD i z_Tile = s[i] := fun i h => by simp [List.getElem?_eq_getElem h]
  refine and_congr_right fun _ => ⟨fun h => ⟨?_, fun t ht => ?_⟩, fun h i hi => ?_⟩
  · rw [List.Nodup, List.pairwise_iff_getElem]
    intro i j hi hj hij he
    have := h j hj
    unfold newB at this
    rw [hg j hj, Bool.and_eq_true, Bool.not_eq_true', decide_eq_false_iff_not] at this
    exact this.1 (by rw [← he]; exact List.mem_take_iff_getElem.2 ⟨i, by omega, rfl⟩)
  · obtain ⟨i, hi, rfl⟩ := List.getElem_of_mem ht
    have := h i hi
    unfold newB at this
    rw [hg i hi, Bool.and_eq_true] at this
    exact this.2
  · unfold newB
    rw [hg i hi, h.2 _ (List.getElem_mem hi), Bool.and_true, Bool.not_eq_true', decide_eq_false_iff_not]
    intro hm
    obtain ⟨j, hj, he⟩ := List.mem_take_iff_getElem.1 hm
    have := h.1
    rw [List.Nodup, List.pairwise_iff_getElem] at this
    exact this j i (by omega) hi (by omega) he
theorem colB_iff (t : Tile) : colB t = true ↔ ((0 ≤ t.N ∧ t.N < 1000) ∧ (0 ≤ t.S ∧ t.S < 1000)) ∧ (0 ≤ t.E ∧ t.E < 1000) ∧ 0 ≤ t.W ∧ t.W < 1000 := by
  unfold colB inCol
  simp only [Bool.and_eq_true, decide_eq_true_eq]
  constructor <;> intro h <;> omega
theorem nodup_map {f : Tile → Tile} {s : List Tile} (h : s.Nodup) (hf : ∀ a ∈ s, ∀ b ∈ s, f a = f b → a = b) : (s.map f).Nodup := by
  rw [List.Nodup, List.pairwise_map]
  exact List.Pairwise.imp_of_mem (fun ha hb hne he => hne (hf _ ha _ hb he)) h
/-! fillings of renamed sets -/
theorem canF_len {s : List Tile} (hs : s.length ≤ 3) : (canF s).length = s.length := by
  obtain ⟨⟨y, hy, e⟩, _⟩ := canF_spec hs
  rw [e, rn_len, (ordL_mem hs hy).length_eq]
theorem rn_valid {y : List Tile} (hn : y.Nodup) (hl : y.length ≤ 3) : validT (rn y) = true := by
  obtain ⟨U, V, h1, h2, h3, h4⟩ := rn_form y
  rw [h2, vN_iff]
  refine ⟨by rw [List.length_map]; omega, nodup_map hn fun a ha b hb e => ?_, fun t ht => ?_⟩
  · obtain ⟨⟨a1, a2⟩, a3, a4⟩ := h1 a ha
    obtain ⟨⟨b1, b2⟩, b3, b4⟩ := h1 b hb
    cases a; cases b
    unfold rT at e
    simp only [Tile.mk.injEq] at e
    obtain ⟨e1, e2, e3, e4⟩ := e
    rw [Tile.mk.injEq]
    exact ⟨ixM_inj a1 b1 e1, ixM_inj a3 b3 e2, ixM_inj a2 b2 e3, ixM_inj a4 b4 e4⟩
  · obtain ⟨u, hu, rfl⟩ := List.mem_map.1 ht
    obtain ⟨⟨a1, a2⟩, a3, a4⟩ := h1 u hu
    rw [colB_iff]
    have q1 := List.idxOf_lt_length_of_mem a1
    have q2 := List.idxOf_lt_length_of_mem a2
    have q3 := List.idxOf_lt_length_of_mem a3
    have q4 := List.idxOf_lt_length_of_mem a4
    unfold rT ixM
    simp only
    omega
theorem canF_valid {s : List Tile} (hv : validT s = true) (hs : s.length ≤ 3) : validT (canF s) = true := by
  obtain ⟨⟨y, hy, e⟩, _⟩ := canF_spec hs
  have hp := ordL_mem hs hy
  rw [e]
  exact rn_valid (hp.nodup_iff.2 ((vN_iff s).1 hv).2.1) (by rw [hp.length_eq]; exact hs)
end Gp
set_option linter.unusedVariables false
set_option linter.unusedSimpArgs false
namespace Gp
open Gw Gq
/-! ### words: lists of numbers in the order in which they are met -/
def exF (e : Nat → List (List Int)) (met x : Nat) : Nat → List (List Int)
  | 0 => []
  | d + 1 => (e (max met (x + 1))).map (fun l => (x : Int) :: l) ++ exF e met (x + 1) d
def exL : Nat → Nat → List (List Int)
  | 0, _ => [[]]
  | m + 1, met => exF (exL m) met 0 (met + 1)
def RunsTo {α σ : Type} (yf : α → σ → Option (σ × Bool)) : List α → σ → σ → Prop
  | [], s, t => s = t
  | x :: L, s, t => ∃ u, yf x s = some (u, true) ∧ RunsTo yf L u t
theorem runs_app {α σ : Type} {yf : α → σ → Option (σ × Bool)} : ∀ (L M : List α) (s t : σ), RunsTo yf (L ++ M) s t → ∃ u, RunsTo yf L s u ∧ RunsTo yf M u t
  | [], M, s, t, h => ⟨s, rfl, h⟩
  | x :: L, M, s, t, ⟨u, h1, h2⟩ => by
    obtain ⟨v, h3, h4⟩ := runs_app L M u t h2
    exact ⟨v, ⟨u, h1, h3⟩, h4⟩
theorem exF_mem {e : Nat → List (List Int)} {met : Nat} {l : List Int} : ∀ (d x : Nat), l ∈ exF e met x d ↔ ∃ y r, x ≤ y ∧ y < x + d ∧ r ∈ e (max met (y + 1)) ∧ l = (y : Int) :: r
  | 0, x => ⟨fun h => (by cases h), fun ⟨y, r, h1, h2, _⟩ => by omega⟩
  | d + 1, x => by
    rw [exF, List.mem_append, exF_mem d (x + 1), List.mem_map]
    constructor
    · rintro (⟨r, h1, rfl⟩ | ⟨y, r, h1, h2, h3, h4⟩)
      · exact ⟨x, r, Nat.le_refl _, by omega, h1, rfl⟩
      · exact ⟨y, r, by omega, by omega, h3, h4⟩
    · rintro ⟨y, r, h1, h2, h3, h4⟩
      by_cases e : y = x
      · subst e; exact .inl ⟨r, h3, h4.symm⟩
      · exact .inr ⟨y, r, by omega, by omega, h3, h4⟩
theorem exL_len : ∀ (m met : Nat) (l : List Int), l ∈ exL m met → l.length = m
  | 0, met, l, h => by rw [exL, List.mem_singleton] at h; rw [h]; rfl
  | m + 1, met, l, h => by
    rw [exL, exF_mem] at h
    obtain ⟨y, r, _, _, h3, rfl⟩ := h
    rw [List.length_cons, exL_len m _ r h3]
theorem exF_nodup {e : Nat → List (List Int)} {met : Nat} (he : ∀ q, (e q).Nodup) : ∀ (d x : Nat), (exF e met x d).Nodup
  | 0, x => List.nodup_nil
  | d + 1, x => by
    rw [exF, List.nodup_append]
    refine ⟨?_, exF_nodup he d (x + 1), ?_⟩
    · unfold List.Nodup
      rw [List.pairwise_map]
      exact (he _).imp fun h e => h (List.cons.inj e).2
    · intro a ha b hb e
      subst e
      obtain ⟨r, _, rfl⟩ := List.mem_map.1 ha
      obtain ⟨y, r', h1, _, _, h4⟩ := (exF_mem d (x + 1)).1 hb
      have := (List.cons.inj h4).1
      omega
theorem exL_nodup : ∀ (m met : Nat), (exL m met).Nodup
  | 0, met => by rw [exL]; simp
  | m + 1, met => by rw [exL]; exact exF_nodup (exL_nodup m) _ _
theorem take_set {l : List Int} {p : Nat} (h : p < l.length) (v : Int) : (l.set p v).take (p + 1) = l.take p ++ [v] := by
  have h2 : p < (l.set p v).length := by rw [List.length_set]; exact h
  rw [List.take_succ_eq_append_getElem h2, List.take_set_of_le (Nat.le_refl _), List.getElem_set_self]
theorem maxI_cast (a b : Nat) : maxI (a : Int) (b : Int) = ((max a b : Nat) : Int) := by
  unfold maxI
  split <;> omega
theorem words_go {σ : Type} {yf : List Int → σ → Option (σ × Bool)} {n : Nat} (hn : n ≤ 100) : ∀ (m p met k : Nat) (l : List Int) (s t : σ), p + m = n → l.length = n → met ≤ p → n + m + 3 < k → RunsTo yf ((exL m met).map fun r => l.take p ++ r) s t →
    ∃ l', census_words_1_1_y k p met n l yf s = some (true, t, l') ∧ l'.length = n ∧ l'.take p = l.take p
  | 0, p, met, k, l, s, t, hp, hl, hm, hk, hr => by
    obtain ⟨k, rfl⟩ : ∃ q, k = q + 1 := ⟨k - 1, by omega⟩
    have hpn : p = n := by omega
    subst hpn
    obtain ⟨u, h1, h2⟩ := hr
    have h2 : u = t := h2
    subst h2
    have h1 : yf (l.take p ++ []) s = some (u, true) := h1
    rw [List.append_nil, List.take_of_length_le (by omega)] at h1
    refine ⟨l, ?_, hl, rfl⟩
    rw [census_words_1_1_y, if_pos (by simp), h1]; rfl
  | m + 1, p, met, k, l, s, t, hp, hl, hm, hk, hr => by
    obtain ⟨k, rfl⟩ : ∃ q, k = q + 1 := ⟨k - 1, by omega⟩
    have key : ∀ (d x j : Nat) (l : List Int) (s : σ), x + d = met + 1 → d < j → l.length = n → RunsTo yf ((exF (exL m) met x d).map fun r => l.take p ++ r) s t →
        ∃ l', census_words_1_1_y.l0 j l x s p met n yf (census_words_1_1_y k) = some (.inr (l', t)) ∧ l'.length = n ∧ l'.take p = l.take p := by
      intro d
      induction d with
      | zero =>
        intro x j l s hx hj hl hr
        obtain ⟨j, rfl⟩ : ∃ q, j = q + 1 := ⟨j - 1, by omega⟩
        have hr : s = t := hr
        subst hr
        refine ⟨l, ?_, hl, rfl⟩
        rw [census_words_1_1_y.l0, if_neg (by rw [w64_id (by omega) (by omega), decide_eq_true_eq]; omega)]
      | succ d ih =>
        intro x j l s hx hj hl hr
        obtain ⟨j, rfl⟩ : ∃ q, j = q + 1 := ⟨j - 1, by omega⟩
        have hpl : p < l.length := by omega
        have hwp : w64 ((p : Int) + 1) = ((p + 1 : Nat) : Int) := by rw [w64_id (by omega) (by omega)]; rfl
        have hwx : w64 ((x : Int) + 1) = ((x + 1 : Nat) : Int) := by rw [w64_id (by omega) (by omega)]; rfl
        rw [exF, List.map_append] at hr
        obtain ⟨u, h1, h2⟩ := runs_app _ _ _ _ hr
        obtain ⟨l1, g1, g2, g3⟩ := words_go hn m (p + 1) (max met (x + 1)) k (l.set p (x : Int)) s u (by omega) (by rw [List.length_set]; exact hl) (by omega) (by omega) (by
          rw [take_set hpl]
          rw [List.map_map] at h1
          have e : ((fun r => List.take p l ++ r) ∘ fun l => (x : Int) :: l) = (fun r => List.take p l ++ [(x : Int)] ++ r) := by funext r; simp
          rw [e] at h1; exact h1)
        have g4 : l1.take p = l.take p := by
          have := congrArg (List.take p) g3
          rw [List.take_take, List.take_take, Nat.min_eq_left (by omega), List.take_set_of_le (Nat.le_refl _)] at this
          exact this
        obtain ⟨l2, f1, f2, f3⟩ := ih (x + 1) j l1 u (by omega) (by omega) g2 (by rw [g4]; exact h2)
        refine ⟨l2, ?_, f2, f3.trans g4⟩
        rw [census_words_1_1_y.l0, if_pos (by rw [w64_id (n := (met : Int) + 1) (by omega) (by omega), decide_eq_true_eq]; omega), if_pos (by omega), hwp, hwx, maxI_cast, Int.toNat_natCast, g1, Option.bind_some]
        rw [if_neg (by simp), f1]
    obtain ⟨l', h1, h2, h3⟩ := key (met + 1) 0 k l s (by omega) (by omega) hl hr
    refine ⟨l', ?_, h2, h3⟩
    have h1 : census_words_1_1_y.l0 k l 0 s p met n yf (census_words_1_1_y k) = _ := h1
    rw [census_words_1_1_y, if_neg (by simp; omega), h1]; rfl
theorem words_run {σ : Type} {yf : List Int → σ → Option (σ × Bool)} {n : Nat} (hn : n ≤ 100) {s t : σ} {k : Nat} (hk : 2 * n + 3 < k) (h : RunsTo yf (exL n 0) s t) : census_words_1_y k n yf s = some t := by
  obtain ⟨l', h1, _, _⟩ := words_go hn n 0 0 k (List.replicate n 0) s t (by omega) (by simp) (Nat.le_refl _) (by omega) (by
    have e : (fun r => List.take 0 (List.replicate n (0 : Int)) ++ r) = id := by funext r; simp
    rw [e, List.map_id]; exact h)
  have h1 : census_words_1_1_y k 0 0 n (List.replicate n 0) yf s = _ := h1
  unfold census_words_1_y
  rw [if_pos (by omega), Int.toNat_natCast, h1]; rfl
/-! the reference's words -/
theorem grow0 (k : Nat) : ref10_growing (k + 300) 0 = some (exL 0 0) := by kernel_rfl
theorem grow2 (k : Nat) : ref10_growing (k + 300) 2 = some (exL 2 0) := by kernel_rfl
theorem grow4 (k : Nat) : ref10_growing (k + 300) 4 = some (exL 4 0) := by kernel_rfl
theorem grow6 (k : Nat) : ref10_growing (k + 300) 6 = some (exL 6 0) := by kernel_rfl
theorem grow_eq {n : Nat} (hn : n ≤ 3) {k : Nat} (hk : 300 ≤ k) : ref10_growing k ((2 * n : Nat) : Int) = some (exL (2 * n) 0) := by
  obtain ⟨k, rfl⟩ : ∃ q, k = q + 300 := ⟨k - 300, by omega⟩
  have : n = 0 ∨ n = 1 ∨ n = 2 ∨ n = 3 := by omega
  rcases this with rfl | rfl | rfl | rfl
  · exact grow0 k
  · exact grow2 k
  · exact grow4 k
  · exact grow6 k
theorem exL_many {n : Nat} (hn : n ≤ 3) : 0 < (exL (2 * n) 0).length ∧ (exL (2 * n) 0).length ≤ 203 := by
  have : n = 0 ∨ n = 1 ∨ n = 2 ∨ n = 3 := by omega
  rcases this with rfl | rfl | rfl | rfl <;> decide +kernel
end Gp
set_option linter.unusedVariables false
set_option linter.unusedSimpArgs false
namespace Gp
open Gw Gq
/-! ### sets of two words -/
def mkS : List Int → List Int → List Tile
  | a :: b :: u, c :: d :: v => ⟨a, c, b, d⟩ :: mkS u v
  | _, _ => []
def vertL (s : List Tile) : List Int := s.flatMap fun t => [t.N, t.S]
def horL (s : List Tile) : List Int := s.flatMap fun t => [t.E, t.W]
theorem mkS_all : ∀ (n : Nat) (u v : List Int), u.length = 2 * n → v.length = 2 * n → (mkS u v).length = n ∧ vertL (mkS u v) = u ∧ horL (mkS u v) = v
  | 0, u, v, hu, hv => by
    have hu := List.eq_nil_of_length_eq_zero (by omega : u.length = 0)
    have hv := List.eq_nil_of_length_eq_zero (by omega : v.length = 0)
    subst hu hv
    exact ⟨rfl, rfl, rfl⟩
  | n + 1, a :: b :: u, c :: d :: v, hu, hv => by
    obtain ⟨h1, h2, h3⟩ := mkS_all n u v (by simp only [List.length_cons] at hu; omega) (by simp only [List.length_cons] at hv; omega)
    rw [mkS]
    refine ⟨by rw [List.length_cons, h1], ?_, ?_⟩
    · show a :: b :: vertL (mkS u v) = _
      rw [h2]
    · show c :: d :: horL (mkS u v) = _
      rw [h3]
  | n + 1, [], v, hu, hv => by simp only [List.length_nil] at hu; omega
  | n + 1, [_], v, hu, hv => by simp only [List.length_cons, List.length_nil] at hu; omega
  | n + 1, _ :: _ :: _, [], hu, hv => by simp only [List.length_nil] at hv; omega
  | n + 1, _ :: _ :: _, [_], hu, hv => by simp only [List.length_cons, List.length_nil] at hv; omega
theorem mkS_drop {u v : List Int} {n x : Nat} (hu : u.length = 2 * n) (hv : v.length = 2 * n) (hx : x < n) : mkS (u.drop (2 * x)) (v.drop (2 * x)) = ⟨u[2 * x], v[2 * x], u[2 * x + 1], v[2 * x + 1]⟩ :: mkS (u.drop (2 * (x + 1))) (v.drop (2 * (x + 1))) := by
  rw [List.drop_eq_getElem_cons (l := u) (i := 2 * x) (by omega), List.drop_eq_getElem_cons (l := u) (i := 2 * x + 1) (by omega), List.drop_eq_getElem_cons (l := v) (i := 2 * x) (by omega), List.drop_eq_getElem_cons (l := v) (i := 2 * x + 1) (by omega), mkS]
  rfl
theorem mkS_end {u v : List Int} {n : Nat} (hu : u.length = 2 * n) : mkS (u.drop (2 * n)) (v.drop (2 * n)) = [] := by
  rw [List.drop_of_length_le (by omega)]; rfl
theorem set_l0 {u v : List Int} {n : Nat} (hu : u.length = 2 * n) (hv : v.length = 2 * n) (hn : n ≤ 1000) : ∀ (d x k : Nat) (acc : List Tile), x + d = n → d < k → acc.length = x → census_forms.l0 k acc x n u v = some (acc ++ mkS (u.drop (2 * x)) (v.drop (2 * x)))
  | 0, x, k, acc, e, hk, ha => by
    obtain ⟨k, rfl⟩ : ∃ m, k = m + 1 := ⟨k - 1, by omega⟩
    have hxn : x = n := by omega
    subst hxn
    rw [census_forms.l0, if_neg (by simp), mkS_end hu, List.append_nil]
  | d + 1, x, k, acc, e, hk, ha => by
    obtain ⟨k, rfl⟩ : ∃ m, k = m + 1 := ⟨k - 1, by omega⟩
    have hwx : w64 ((x : Int) + 1) = ((x + 1 : Nat) : Int) := by rw [w64_id (by omega) (by omega)]; rfl
    have hw2 : w64 (2 * (x : Int)) = ((2 * x : Nat) : Int) := by rw [w64_id (by omega) (by omega)]; rfl
    have hw3 : w64 (((2 * x : Nat) : Int) + 1) = ((2 * x + 1 : Nat) : Int) := by rw [w64_id (by omega) (by omega)]; rfl
    have r1 : rdD u ((2 * x : Nat) : Int) 0 = u[2 * x] := rdD_get (by omega) 0
    have r2 : rdD v ((2 * x : Nat) : Int) 0 = v[2 * x] := rdD_get (by omega) 0
    have r3 : rdD u ((2 * x + 1 : Nat) : Int) 0 = u[2 * x + 1] := rdD_get (by omega) 0
    have r4 : rdD v ((2 * x + 1 : Nat) : Int) 0 = v[2 * x + 1] := rdD_get (by omega) 0
    have ih := set_l0 hu hv hn d (x + 1) k (acc ++ [⟨u[2 * x], v[2 * x], u[2 * x + 1], v[2 * x + 1]⟩]) (by omega) (by omega) (by rw [List.length_append, ha]; rfl)
    rw [census_forms.l0, if_pos (by rw [decide_eq_true_eq]; omega), hw2, hw3, if_pos (by omega), if_pos (by omega), if_pos (by omega), if_pos (by omega), r1, r2, r3, r4, if_pos (by rw [ha]; show x + 1 ≤ _; omega), hwx, ih, mkS_drop (x := x) hu hv (by omega), List.append_assoc]
    rfl
/-! ### the least forms -/
def okS (s : List Tile) : Bool := validT s && decide (canF s = s)
def rowG (n : Nat) (u : List Int) : List (List Tile) := ((exL (2 * n) 0).map (mkS u)).filter okS
def formL (n : Nat) : List (List Tile) := (exL (2 * n) 0).flatMap (rowG n)
theorem canF_lenN {s : List Tile} (hs : s.length ≤ 3) : (canF s).length ≤ 1000 := by rw [canF_len hs]; omega
theorem b2_one {n : Nat} (hn : n ≤ 3) {u v : List Int} (hu : u.length = 2 * n) (hv : v.length = 2 * n) {l : List (List Tile)} (hl : l.length < 100000000000) {k : Nat} (hk : 400000 ≤ k) : census_forms.b2 k n u v (l, 0) = some ((l ++ [mkS u v].filter okS, 0), true) := by
  have hm := (mkS_all n u v hu hv).1
  have h0 := set_l0 hu hv (by omega) n 0 k [] (by omega) (by omega) rfl
  have h0 : census_forms.l0 k [] 0 n u v = some ([] ++ mkS u v) := h0
  rw [List.nil_append] at h0
  rw [census_forms.b2, if_pos rfl, h0, Option.bind_some, tile_valid _ (by omega) (by omega), Option.bind_some]
  have he : [mkS u v].filter okS = if okS (mkS u v) = true then [mkS u v] else [] := by
    cases h : okS (mkS u v) <;> simp [h]
  rw [he]
  unfold okS
  cases hv : validT (mkS u v)
  · rw [if_neg (by simp), Option.bind_some, if_neg (by simp), Option.bind_some, if_neg (by simp), List.append_nil]
  · have h1 : census_least k (mkS u v) = some (canF (mkS u v)) := by
      obtain ⟨k, rfl⟩ : ∃ m, k = m + 300000 := ⟨k - 300000, by omega⟩
      exact least_eqN (by omega) k
    obtain ⟨r, h2, _, h3⟩ := before_eq (a := canF (mkS u v)) (b := mkS u v) (canF_lenN (by omega)) (by omega) (k := k) (by omega)
    rw [if_pos rfl, h1, Option.bind_some, h2, Option.bind_some, Option.bind_some, Bool.true_and]
    by_cases hc : canF (mkS u v) = mkS u v
    · rw [if_pos (by rw [h3.2 hc]; rfl), if_pos (by omega), if_pos (decide_eq_true hc)]; rfl
    · rw [if_neg (by rw [beq_iff_eq]; exact fun e => hc (h3.1 e)), if_neg (by rw [decide_eq_true_eq]; exact hc), List.append_nil]; rfl
theorem b2_runs {n : Nat} (hn : n ≤ 3) {u : List Int} (hu : u.length = 2 * n) {k : Nat} (hk : 400000 ≤ k) : ∀ (L : List (List Int)) (l : List (List Tile)), (∀ v ∈ L, v.length = 2 * n) → l.length + L.length ≤ 10000000000 → RunsTo (census_forms.b2 k n u) L (l, 0) (l ++ (L.map (mkS u)).filter okS, 0)
  | [], l, hL, hl => by show (l, (0 : Int)) = (l ++ [], 0); rw [List.append_nil]
  | v :: L, l, hL, hl => by
    rw [List.length_cons] at hl
    refine ⟨_, b2_one hn hu (hL v List.mem_cons_self) (by omega) hk, ?_⟩
    have hf : ([mkS u v].filter okS).length ≤ 1 := List.length_filter_le _ _
    have := b2_runs hn hu hk L (l ++ [mkS u v].filter okS) (fun w hw => hL w (List.mem_cons_of_mem _ hw)) (by rw [List.length_append]; omega)
    rw [List.map_cons, show mkS u v :: L.map (mkS u) = [mkS u v] ++ L.map (mkS u) from rfl, List.filter_append, ← List.append_assoc]
    exact this
theorem rowG_len {n : Nat} (hn : n ≤ 3) (u : List Int) : (rowG n u).length ≤ 203 := by
  have h1 := exL_many hn
  have h2 : (rowG n u).length ≤ ((exL (2 * n) 0).map (mkS u)).length := List.length_filter_le _ _
  rw [List.length_map] at h2
  omega
theorem w2n {n : Nat} (hn : n ≤ 3) : w64 (2 * (n : Int)) = ((2 * n : Nat) : Int) := by rw [w64_id (by omega) (by omega)]; rfl
theorem b1_runs {n : Nat} (hn : n ≤ 3) {k : Nat} (hk : 400000 ≤ k) : ∀ (L : List (List Int)) (l : List (List Tile)), (∀ v ∈ L, v.length = 2 * n) → l.length + 203 * L.length ≤ 1000000000 → RunsTo (census_forms.b1 k n) L (l, 0) (l ++ L.flatMap (rowG n), 0)
  | [], l, hL, hl => by show (l, (0 : Int)) = (l ++ [], 0); rw [List.append_nil]
  | u :: L, l, hL, hl => by
    rw [List.length_cons] at hl
    have hm := exL_many hn
    have h1 := b2_runs hn (hL u List.mem_cons_self) hk (exL (2 * n) 0) l (fun v hv => exL_len _ _ v hv) (by omega)
    have h2 := words_run (by omega) (k := k) (by omega) h1
    refine ⟨(l ++ rowG n u, 0), ?_, ?_⟩
    · rw [census_forms.b1, if_pos rfl]
      unfold census_words
      rw [Option.bind_some, w2n hn, h2]; rfl
    · have := rowG_len hn u
      have := b1_runs hn hk L (l ++ rowG n u) (fun w hw => hL w (List.mem_cons_of_mem _ hw)) (by rw [List.length_append]; omega)
      rw [List.flatMap_cons, ← List.append_assoc]
      exact this
theorem forms_sort {n : Nat} (hn : n ≤ 3) {k : Nat} (hk : 400000 ≤ k) : census_forms k n = sortP (census_before k) (formL n) [] := by
  have hm := exL_many hn
  have h1 := b1_runs hn hk (exL (2 * n) 0) [] (fun v hv => exL_len _ _ v hv) (by simp; omega)
  have h2 := words_run (by omega) (k := k) (by omega) h1
  have h2 : census_words_1_y k ((2 * n : Nat) : Int) (census_forms.b1 k n) (([] : List (List Tile)), (0 : Int)) = some (formL n, 0) := h2
  unfold census_forms census_words
  rw [Option.bind_some, w2n hn, h2, Option.bind_some]
  show (if (0 : Int) = 0 then (sortP (census_before k) (formL n) []).bind some else none) = _
  rw [if_pos rfl]
  cases sortP (census_before k) (formL n) [] <;> rfl
/-! what is there, and once -/
theorem formL_mem {n : Nat} {s : List Tile} : s ∈ formL n ↔ (∃ u v, u ∈ exL (2 * n) 0 ∧ v ∈ exL (2 * n) 0 ∧ s = mkS u v) ∧ validT s = true ∧ canF s = s := by
  unfold formL rowG okS
  simp only [List.mem_flatMap, List.mem_filter, List.mem_map, Bool.and_eq_true, decide_eq_true_eq]
  constructor
  · rintro ⟨u, hu, ⟨v, hv, rfl⟩, h⟩
    exact ⟨⟨u, v, hu, hv, rfl⟩, h⟩
  · rintro ⟨⟨u, v, hu, hv, rfl⟩, h⟩
    exact ⟨u, hu, ⟨v, hv, rfl⟩, h⟩
theorem formL_len {n : Nat} {s : List Tile} (h : s ∈ formL n) : s.length = n := by
  obtain ⟨⟨u, v, hu, hv, rfl⟩, _⟩ := formL_mem.1 h
  exact (mkS_all n u v (exL_len _ _ _ hu) (exL_len _ _ _ hv)).1
theorem formL_nodup (n : Nat) : (formL n).Nodup := by
  unfold formL List.Nodup
  rw [List.pairwise_flatMap]
  refine ⟨fun u hu => ?_, (exL_nodup (2 * n) 0).imp_of_mem fun {a b} ha hb hab x hx y hy e => ?_⟩
  · refine List.Pairwise.filter _ ?_
    rw [List.pairwise_map]
    refine (exL_nodup (2 * n) 0).imp_of_mem fun {a b} ha hb hab e => hab ?_
    have h1 := (mkS_all n u a (exL_len _ _ _ hu) (exL_len _ _ _ ha)).2.2
    have h2 := (mkS_all n u b (exL_len _ _ _ hu) (exL_len _ _ _ hb)).2.2
    rw [← h1, ← h2, e]
  · subst e
    obtain ⟨v, hv, rfl⟩ := List.mem_map.1 (List.mem_filter.1 hx).1
    obtain ⟨w, hw, e2⟩ := List.mem_map.1 (List.mem_filter.1 hy).1
    have h1 := (mkS_all n a v (exL_len _ _ _ ha) (exL_len _ _ _ hv)).2.1
    have h2 := (mkS_all n b w (exL_len _ _ _ hb) (exL_len _ _ _ hw)).2.1
    exact hab (by rw [← h1, ← h2, e2])
theorem formL_many {n : Nat} (hn : n ≤ 3) : (formL n).length ≤ 100000 := by
  have hm := exL_many hn
  unfold formL
  rw [List.length_flatMap]
  have : ∀ L : List (List Int), (L.map fun u => (rowG n u).length).sum ≤ 203 * L.length := fun L => by
    induction L with
    | nil => simp
    | cons u L ih => have := rowG_len hn u; rw [List.map_cons, List.sum_cons, List.length_cons]; omega
  have := this (exL (2 * n) 0)
  omega
def rnI : List Int → List Int → List Int
  | _, [] => []
  | met, c :: l => ixM (addM met c) c :: rnI (addM met c) l
theorem rnI_mem : ∀ (l met : List Int), rnI met l ∈ exL l.length met.length
  | [], met => by rw [rnI, List.length_nil, exL]; simp
  | c :: l, met => by
    rw [rnI, List.length_cons, exL, exF_mem]
    have hm : c ∈ addM met c := (addM_mem ..).2 (.inr rfl)
    have hlt := List.idxOf_lt_length_of_mem hm
    have key : (addM met c).length = max met.length ((addM met c).idxOf c + 1) ∧ (addM met c).idxOf c < met.length + 1 := by
      by_cases h : c ∈ met
      · have ha : addM met c = met := by unfold addM; rw [if_pos h]
        rw [ha] at hlt ⊢
        omega
      · have ha : addM met c = met ++ [c] := by unfold addM; rw [if_neg h]
        have hi : (met ++ [c]).idxOf c = met.length := by
          rw [List.idxOf_append, if_neg h]; simp
        rw [ha, hi, List.length_append]
        simp
    refine ⟨(addM met c).idxOf c, rnI (addM met c) l, Nat.zero_le _, by omega, ?_, rfl⟩
    rw [← key.1]
    exact rnI_mem l (addM met c)
theorem rn_mk : ∀ (s : List Tile) (up sd : List Int), mkS (rnI up (vertL s)) (rnI sd (horL s)) = rnL up sd s
  | [], up, sd => rfl
  | t :: s, up, sd => by
    show mkS (rnI up (t.N :: t.S :: vertL s)) (rnI sd (t.E :: t.W :: horL s)) = _
    rw [rnI, rnI, rnI, rnI, mkS, rn_mk s, rnL]
theorem vert_len : ∀ s : List Tile, (vertL s).length = 2 * s.length ∧ (horL s).length = 2 * s.length
  | [] => ⟨rfl, rfl⟩
  | t :: s => by
    obtain ⟨h1, h2⟩ := vert_len s
    show (t.N :: t.S :: vertL s).length = _ ∧ (t.E :: t.W :: horL s).length = _
    simp only [List.length_cons, h1, h2]
    omega
theorem ordL_tr {s y z : List Tile} (hs : s.length ≤ 3) (hy : y ∈ ordL s) : z ∈ ordL y ↔ z ∈ ordL s := by
  match s, hs, hy with
  | [], _, hy => rw [ordL, List.mem_singleton] at hy; subst hy; exact Iff.rfl
  | [a], _, hy => rw [ordL, List.mem_singleton] at hy; subst hy; exact Iff.rfl
  | [a, b], _, hy =>
    simp only [ordL, List.mem_cons, List.not_mem_nil, or_false] at hy
    rcases hy with rfl | rfl <;> simp only [ordL, List.mem_cons, List.not_mem_nil, or_false] <;> grind
  | [a, b, c], _, hy =>
    simp only [ordL, List.mem_cons, List.not_mem_nil, or_false] at hy
    rcases hy with rfl | rfl | rfl | rfl | rfl | rfl <;> simp only [ordL, List.mem_cons, List.not_mem_nil, or_false] <;> grind
theorem canF_idem {s : List Tile} (hs : s.length ≤ 3) : canF (canF s) = canF s := by
  obtain ⟨⟨y, hy, e⟩, _⟩ := canF_spec hs
  have hp := ordL_mem hs hy
  have hyl : y.length ≤ 3 := by rw [hp.length_eq]; exact hs
  obtain ⟨U, V, h1, h2, _, _⟩ := rn_form y
  have key : ∀ w ∈ ordL y, rn (w.map (rT (ixM U) (ixM V))) = rn w := fun w hw =>
    rn_map (P := fun c => c ∈ U) (Q := fun c => c ∈ V) (fun a b ha hb h => ixM_inj ha hb h) (fun a b ha hb h => ixM_inj ha hb h) fun t ht => h1 t ((ordL_mem hyl hw).mem_iff.1 ht)
  have : canF (rn y) = canF s := canF_same (by rw [rn_len]; exact hyl) hs
    (fun z hz => by
      rw [h2, ordL_map _ hyl] at hz
      obtain ⟨w, hw, rfl⟩ := List.mem_map.1 hz
      exact ⟨w, (ordL_tr hs hy).1 hw, key w hw⟩)
    (fun z hz => by
      have hz2 := (ordL_tr hs hy).2 hz
      refine ⟨z.map (rT (ixM U) (ixM V)), ?_, (key z hz2).symm⟩
      rw [h2, ordL_map _ hyl]
      exact List.mem_map_of_mem hz2)
  rw [e, this, ← e]
theorem canF_in {s : List Tile} (hv : validT s = true) (hs : s.length ≤ 3) : canF s ∈ formL s.length := by
  obtain ⟨⟨y, hy, e⟩, _⟩ := canF_spec hs
  have hp := ordL_mem hs hy
  refine formL_mem.2 ⟨⟨rnI [] (vertL y), rnI [] (horL y), ?_, ?_, ?_⟩, canF_valid hv hs, canF_idem hs⟩
  · have := rnI_mem (vertL y) []
    rw [(vert_len y).1, hp.length_eq] at this
    exact this
  · have := rnI_mem (horL y) []
    rw [(vert_len y).2, hp.length_eq] at this
    exact this
  · rw [e, rn_mk]; rfl
end Gp
set_option linter.unusedVariables false
set_option linter.unusedSimpArgs false
namespace Gp
open Gw Gq
/-! ### the reference's names -/
theorem ren_l1 {met p : List Int} {i : Nat} (hi : i < p.length) (hm : met.length ≤ 100000) : ∀ (d x k : Nat), x + d = met.length → d < k → ref10_renamed.l1 k x p met i = some ((x + (met.drop x).idxOf p[i] : Nat) : Int)
  | 0, x, k, e, hk => by
    obtain ⟨k, rfl⟩ : ∃ m, k = m + 1 := ⟨k - 1, by omega⟩
    rw [ref10_renamed.l1, if_neg (by simp; omega), Option.bind_some, if_neg (by decide), List.drop_of_length_le (by omega)]
    rfl
  | d + 1, x, k, e, hk => by
    obtain ⟨k, rfl⟩ : ∃ m, k = m + 1 := ⟨k - 1, by omega⟩
    have hwx : w64 ((x : Int) + 1) = ((x + 1 : Nat) : Int) := by rw [w64_id (by omega) (by omega)]; rfl
    have hx : x < met.length := by omega
    have r1 : rdD met (x : Int) 0 = met[x] := rdD_get hx 0
    have r2 : rdD p (i : Int) 0 = p[i] := rdD_get hi 0
    have ih := ren_l1 hi hm d (x + 1) k (by omega) (by omega)
    rw [ref10_renamed.l1, if_pos (by simpa using hx), if_pos (by omega), if_pos (by omega), Option.bind_some, r1, r2, List.drop_eq_getElem_cons hx, List.idxOf_cons, hwx, ih]
    by_cases hc : met[x] = p[i]
    · rw [hc]; simp
    · rw [if_pos (by simpa using hc), beq_false_of_ne hc]
      simp only [cond_false]
      congr 2
      omega
theorem add_ix (met : List Int) (c : Int) : ixM (addM met c) c = ((met.idxOf c : Nat) : Int) ∧ addM met c = if met.idxOf c = met.length then met ++ [c] else met := by
  unfold addM ixM
  by_cases h : c ∈ met
  · have := List.idxOf_lt_length_of_mem h
    rw [if_pos h, if_neg (by omega)]; exact ⟨rfl, rfl⟩
  · have hi : met.idxOf c = met.length := List.idxOf_eq_length h
    rw [if_neg h, if_pos hi]
    refine ⟨?_, rfl⟩
    rw [List.idxOf_append, if_neg h, hi]; simp
theorem ren_l0 {p : List Int} (hp : p.length ≤ 100000) : ∀ (d x k : Nat) (met out : List Int), x + d = p.length → d + p.length < k → met.length ≤ x → out.length = x → ref10_renamed.l0 k met out x p = some (out ++ rnI met (p.drop x))
  | 0, x, k, met, out, e, hk, h1, h2 => by
    obtain ⟨k, rfl⟩ : ∃ m, k = m + 1 := ⟨k - 1, by omega⟩
    rw [ref10_renamed.l0, if_neg (by simp; omega), List.drop_of_length_le (by omega), rnI, List.append_nil]
  | d + 1, x, k, met, out, e, hk, h1, h2 => by
    obtain ⟨k, rfl⟩ : ∃ m, k = m + 1 := ⟨k - 1, by omega⟩
    have hwx : w64 ((x : Int) + 1) = ((x + 1 : Nat) : Int) := by rw [w64_id (by omega) (by omega)]; rfl
    have hx : x < p.length := by omega
    have r1 : rdD p (x : Int) 0 = p[x] := rdD_get hx 0
    have s1 := ren_l1 (met := met) hx (by omega) met.length 0 k (by omega) (by omega)
    rw [List.drop_zero, Nat.zero_add] at s1
    have s1 : ref10_renamed.l1 k 0 p met x = some ((met.idxOf p[x] : Nat) : Int) := s1
    obtain ⟨a1, a2⟩ := add_ix met p[x]
    have hl := addM_len met p[x]
    have ih := ren_l0 hp d (x + 1) k (addM met p[x]) (out ++ [ixM (addM met p[x]) p[x]]) (by omega) (by omega) (by omega) (by rw [List.length_append, h2]; rfl)
    rw [ref10_renamed.l0, if_pos (by simpa using hx), s1, Option.bind_some, List.drop_eq_getElem_cons hx, rnI, hwx]
    have e1 : (if (((met.idxOf p[x] : Nat) : Int) == (met.length : Int)) = true then (if 0 ≤ (x : Int) ∧ (x : Int) < (p.length : Int) then (if met.length + [(rdD p (x : Int) 0)].length ≤ 100000000000 then (some (met ++ [(rdD p (x : Int) 0)])) else none) else none) else (some met)) = some (addM met p[x]) := by
      rw [a2]
      by_cases hc : met.idxOf p[x] = met.length
      · rw [if_pos (by rw [beq_iff_eq]; omega), if_pos (by omega), if_pos (by show met.length + 1 ≤ _; omega), if_pos hc, r1]
      · rw [if_neg (by rw [beq_iff_eq]; omega), if_neg hc]
    rw [e1, Option.bind_some, if_pos (by rw [h2]; show x + 1 ≤ _; omega), ← a1, ih, List.append_assoc]
    rfl
theorem renI_eq {p : List Int} (hp : p.length ≤ 100000) {k : Nat} (hk : 2 * p.length < k) : ref10_renamed k p = some (rnI [] p) := by
  have h := ren_l0 hp p.length 0 k [] [] (by omega) (by omega) (Nat.le_refl _) rfl
  rw [List.drop_zero, List.nil_append] at h
  have h : ref10_renamed.l0 k [] [] 0 p = _ := h
  unfold ref10_renamed
  rw [h]; rfl
theorem nam_l0 {s : List Tile} (hs : s.length ≤ 1000) : ∀ (d x k : Nat) (v h : List Int), x + d = s.length → d < k → v.length = 2 * x → h.length = 2 * x → ref10_named.l0 k v h x s = some (v ++ vertL (s.drop x), h ++ horL (s.drop x))
  | 0, x, k, v, h, e, hk, h1, h2 => by
    obtain ⟨k, rfl⟩ : ∃ m, k = m + 1 := ⟨k - 1, by omega⟩
    rw [ref10_named.l0, if_neg (by simp; omega), List.drop_of_length_le (by omega)]
    show _ = some (v ++ [], h ++ [])
    rw [List.append_nil, List.append_nil]
  | d + 1, x, k, v, h, e, hk, h1, h2 => by
    obtain ⟨k, rfl⟩ : ∃ m, k = m + 1 := ⟨k - 1, by omega⟩
    have hwx : w64 ((x : Int) + 1) = ((x + 1 : Nat) : Int) := by rw [w64_id (by omega) (by omega)]; rfl
    have hx : x < s.length := by omega
    have r1 : rdD s (x : Int) z_Tile = s[x] := rdD_get hx _
    have ih := nam_l0 hs d (x + 1) k (v ++ [s[x].N, s[x].S]) (h ++ [s[x].E, s[x].W]) (by omega) (by omega) (by rw [List.length_append, h1]; show 2 * x + 2 = _; omega) (by rw [List.length_append, h2]; show 2 * x + 2 = _; omega)
    rw [ref10_named.l0, if_pos (by simpa using hx), if_pos (by omega), if_pos (by rw [h1]; show 2 * x + 2 ≤ _; omega), if_pos (by rw [h2]; show 2 * x + 2 ≤ _; omega), Option.bind_some, r1, hwx, ih, List.drop_eq_getElem_cons hx, List.append_assoc, List.append_assoc]
    rfl
theorem nam_l1 {u v : List Int} {s : List Tile} {n : Nat} (hs : s.length = n) (hu : u.length = 2 * n) (hv : v.length = 2 * n) (hn : n ≤ 1000) : ∀ (d x k : Nat) (acc : List Tile), x + d = n → d < k → acc.length = x → ref10_named.l1 k acc x s u v = some (acc ++ mkS (u.drop (2 * x)) (v.drop (2 * x)))
  | 0, x, k, acc, e, hk, ha => by
    obtain ⟨k, rfl⟩ : ∃ m, k = m + 1 := ⟨k - 1, by omega⟩
    have hxn : x = n := by omega
    subst hxn
    rw [ref10_named.l1, if_neg (by rw [decide_eq_true_eq]; omega), mkS_end hu, List.append_nil]
  | d + 1, x, k, acc, e, hk, ha => by
    obtain ⟨k, rfl⟩ : ∃ m, k = m + 1 := ⟨k - 1, by omega⟩
    have hwx : w64 ((x : Int) + 1) = ((x + 1 : Nat) : Int) := by rw [w64_id (by omega) (by omega)]; rfl
    have hw2 : w64 (2 * (x : Int)) = ((2 * x : Nat) : Int) := by rw [w64_id (by omega) (by omega)]; rfl
    have hw3 : w64 (((2 * x : Nat) : Int) + 1) = ((2 * x + 1 : Nat) : Int) := by rw [w64_id (by omega) (by omega)]; rfl
    have r1 : rdD u ((2 * x : Nat) : Int) 0 = u[2 * x] := rdD_get (by omega) 0
    have r2 : rdD v ((2 * x : Nat) : Int) 0 = v[2 * x] := rdD_get (by omega) 0
    have r3 : rdD u ((2 * x + 1 : Nat) : Int) 0 = u[2 * x + 1] := rdD_get (by omega) 0
    have r4 : rdD v ((2 * x + 1 : Nat) : Int) 0 = v[2 * x + 1] := rdD_get (by omega) 0
    have ih := nam_l1 hs hu hv hn d (x + 1) k (acc ++ [⟨u[2 * x], v[2 * x], u[2 * x + 1], v[2 * x + 1]⟩]) (by omega) (by omega) (by rw [List.length_append, ha]; rfl)
    rw [ref10_named.l1, if_pos (by rw [decide_eq_true_eq]; omega), hw2, hw3, if_pos (by omega), if_pos (by omega), if_pos (by omega), if_pos (by omega), r1, r2, r3, r4, if_pos (by rw [ha]; show x + 1 ≤ _; omega), hwx, ih, mkS_drop (x := x) hu hv (by omega), List.append_assoc]
    rfl
theorem rnI_len : ∀ (l met : List Int), (rnI met l).length = l.length
  | [], _ => rfl
  | c :: l, met => by rw [rnI, List.length_cons, rnI_len l, List.length_cons]
theorem named_eq {s : List Tile} (hs : s.length ≤ 1000) {k : Nat} (hk : 10000 < k) : ref10_named k s = some (rn s) := by
  obtain ⟨v1, v2⟩ := vert_len s
  have h0 := nam_l0 hs s.length 0 k [] [] (by omega) (by omega) rfl rfl
  rw [List.drop_zero, List.nil_append, List.nil_append] at h0
  have h0 : ref10_named.l0 k [] [] 0 s = _ := h0
  have h1 := nam_l1 (u := rnI [] (vertL s)) (v := rnI [] (horL s)) rfl (by rw [rnI_len, v1]) (by rw [rnI_len, v2]) hs s.length 0 k [] (by omega) (by omega) rfl
  rw [List.nil_append, Nat.mul_zero, List.drop_zero, List.drop_zero, rn_mk] at h1
  have h1 : ref10_named.l1 k [] 0 s _ _ = _ := h1
  unfold ref10_named
  rw [h0, Option.bind_some]
  simp only
  rw [renI_eq (by omega) (by omega), Option.bind_some, renI_eq (by omega) (by omega), Option.bind_some, h1]; rfl
/-! sets that are the same -/
theorem same_l0 {a b : List Tile} (hab : a.length = b.length) (ha : a.length ≤ 100000) : ∀ (d x k : Nat), x + d = a.length → d < k → ref01_SameSet.l0 k x a b = some (if a.drop x = b.drop x then .inr () else .inl false)
  | 0, x, k, e, hk => by
    obtain ⟨k, rfl⟩ : ∃ m, k = m + 1 := ⟨k - 1, by omega⟩
    rw [ref01_SameSet.l0, if_neg (by simp; omega), List.drop_of_length_le (by omega), List.drop_of_length_le (by omega), if_pos rfl]
  | d + 1, x, k, e, hk => by
    obtain ⟨k, rfl⟩ : ∃ m, k = m + 1 := ⟨k - 1, by omega⟩
    have hwx : w64 ((x : Int) + 1) = ((x + 1 : Nat) : Int) := by rw [w64_id (by omega) (by omega)]; rfl
    have hx : x < a.length := by omega
    have hy : x < b.length := by omega
    have r1 : rdD a (x : Int) z_Tile = a[x] := rdD_get hx _
    have r2 : rdD b (x : Int) z_Tile = b[x] := rdD_get hy _
    have ih := same_l0 hab ha d (x + 1) k (by omega) (by omega)
    have hq : ((a[x].N == b[x].N) && ((a[x].E == b[x].E) && ((a[x].S == b[x].S) && (a[x].W == b[x].W)))) = true ↔ a[x] = b[x] := by
      cases a[x]; cases b[x]
      simp [Tile.mk.injEq]
    rw [ref01_SameSet.l0, if_pos (by simpa using hx), if_pos (by omega), if_pos (by omega), r1, r2, hwx, ih, List.drop_eq_getElem_cons hx, List.drop_eq_getElem_cons hy]
    by_cases hc : a[x] = b[x]
    · rw [hq.2 hc, if_neg (by decide), hc]
      simp only [List.cons.injEq, true_and]
    · have : ((a[x].N == b[x].N) && ((a[x].E == b[x].E) && ((a[x].S == b[x].S) && (a[x].W == b[x].W)))) = false := by
        cases h : ((a[x].N == b[x].N) && ((a[x].E == b[x].E) && ((a[x].S == b[x].S) && (a[x].W == b[x].W))))
        · rfl
        · exact absurd (hq.1 h) hc
      rw [this, if_pos (by decide), if_neg (fun h => hc (List.cons.inj h).1)]
theorem same_eq {a b : List Tile} (ha : a.length ≤ 100000) {k : Nat} (hk : 100000 < k) : ref01_SameSet k a b = some (decide (a = b)) := by
  unfold ref01_SameSet
  by_cases hab : a.length = b.length
  · have h := same_l0 hab ha a.length 0 k (by omega) (by omega)
    rw [List.drop_zero, List.drop_zero] at h
    have h : ref01_SameSet.l0 k 0 a b = _ := h
    rw [if_neg (by simp [hab]), h]
    by_cases e : a = b
    · rw [if_pos e, decide_eq_true e]; rfl
    · rw [if_neg e, decide_eq_false e]; rfl
  · rw [if_pos (by simp; omega), decide_eq_false (fun e => hab (by rw [e]))]
/-! the reference's order -/
theorem num0_l0 {s : List Tile} (hs : s.length ≤ 1000) : ∀ (d x k : Nat) (acc : List Int), x + d = s.length → d < k → acc.length = 4 * x → ref10_numbers.l0 k acc x s = some (acc ++ numL (s.drop x))
  | 0, x, k, acc, e, hk, ha => by
    obtain ⟨k, rfl⟩ : ∃ m, k = m + 1 := ⟨k - 1, by omega⟩
    rw [List.drop_of_length_le (by omega), ref10_numbers.l0, if_neg (by simp; omega)]
    show _ = some (acc ++ [])
    rw [List.append_nil]
  | d + 1, x, k, acc, e, hk, ha => by
    obtain ⟨k, rfl⟩ : ∃ m, k = m + 1 := ⟨k - 1, by omega⟩
    have hx : x < s.length := by omega
    have hwx : w64 ((x : Int) + 1) = ((x + 1 : Nat) : Int) := by rw [w64_id (by omega) (by omega)]; rfl
    rw [ref10_numbers.l0, if_pos (by simpa using hx), if_pos (by omega), rdD_get hx, if_pos (by show acc.length + 4 ≤ _; omega), hwx, num0_l0 hs d (x + 1) k _ (by omega) (by omega) (by rw [List.length_append, ha]; show 4 * x + 4 = _; omega), List.drop_eq_getElem_cons hx, List.append_assoc]
    rfl
theorem num0_eq {s : List Tile} (hs : s.length ≤ 1000) {k : Nat} (hk : 2000 < k) : ref10_numbers k s = some (numL s) := by
  have h := num0_l0 hs s.length 0 k [] (by omega) (by omega) rfl
  rw [List.drop_zero, List.nil_append] at h
  have h : ref10_numbers.l0 k [] 0 s = _ := h
  unfold ref10_numbers
  rw [h]; rfl
theorem bef_l0 {A B : List Int} (ha : A.length ≤ 100000) (hb : B.length ≤ 100000) : ∀ (d x k : Nat), x + d = A.length → d < k → x ≤ B.length → (ref10_Before.l0 k x A B).bind (fun y => sumb y (fun r => some r) (fun _ => some (decide ((A.length : Int) < (B.length : Int))))) = some (ltL (A.drop x) (B.drop x))
  | 0, x, k, e, hk, hx => by
    obtain ⟨k, rfl⟩ : ∃ m, k = m + 1 := ⟨k - 1, by omega⟩
    rw [ref10_Before.l0, if_neg (by simp; omega), Option.bind_some]
    show some (decide _) = _
    rw [List.drop_of_length_le (l := A) (by omega)]
    congr 1
    cases h : B.drop x with
    | nil =>
      have : B.length ≤ x := by rw [List.drop_eq_nil_iff] at h; exact h
      rw [ltL, decide_eq_false (by omega)]
    | cons y r =>
      have : x < B.length := by
        rcases Nat.lt_or_ge x B.length with h2 | h2
        · exact h2
        · rw [List.drop_of_length_le h2] at h; cases h
      rw [ltL, decide_eq_true (by omega)]
  | d + 1, x, k, e, hk, hx => by
    obtain ⟨k, rfl⟩ : ∃ m, k = m + 1 := ⟨k - 1, by omega⟩
    have hwx : w64 ((x : Int) + 1) = ((x + 1 : Nat) : Int) := by rw [w64_id (by omega) (by omega)]; rfl
    have hxa : x < A.length := by omega
    by_cases hxb : x < B.length
    · have r1 : rdD A (x : Int) 0 = A[x] := rdD_get hxa 0
      have r2 : rdD B (x : Int) 0 = B[x] := rdD_get hxb 0
      have ih := bef_l0 ha hb d (x + 1) k (by omega) (by omega) (by omega)
      rw [ref10_Before.l0, if_pos (by simp; omega), if_pos (by omega), if_pos (by omega), r1, r2, hwx, List.drop_eq_getElem_cons hxa, List.drop_eq_getElem_cons hxb, ltL]
      by_cases hc : A[x] = B[x]
      · rw [if_neg (by simp [hc]), ih, hc]; simp
      · rw [if_pos (by simpa using hc), decide_eq_false hc]; simp [sumb]
    · rw [ref10_Before.l0, if_neg (by simp; omega), Option.bind_some]
      show some (decide _) = _
      rw [List.drop_of_length_le (l := B) (by omega), decide_eq_false (by omega)]
      congr 1
      rw [List.drop_eq_getElem_cons hxa]; rfl
theorem bef0_eq {a b : List Tile} (ha : a.length ≤ 1000) (hb : b.length ≤ 1000) {k : Nat} (hk : 100000 < k) : ref10_Before k a b = some (befB a b) := by
  have h := bef_l0 (A := numL a) (B := numL b) (by rw [numL_len]; omega) (by rw [numL_len]; omega) (numL a).length 0 k (by omega) (by rw [numL_len]; omega) (by omega)
  rw [List.drop_zero, List.drop_zero] at h
  unfold ref10_Before
  rw [num0_eq ha (by omega), num0_eq hb (by omega), Option.bind_some, Option.bind_some]
  exact h
/-! the reference's orders -/
def ord0 : List Tile → List (List Tile)
  | [a, b, c] => [[a, b, c], [a, c, b], [b, a, c], [b, c, a], [c, a, b], [c, b, a]]
  | s => ordL s
theorem ord0_0 (k : Nat) : ref10_orders (k + 20) [] = some [[]] := by kernel_rfl
theorem ord0_1 (a : Tile) (k : Nat) : ref10_orders (k + 20) [a] = some [[a]] := by kernel_rfl
theorem ord0_2 (a b : Tile) (k : Nat) : ref10_orders (k + 20) [a, b] = some [[a, b], [b, a]] := by kernel_rfl
theorem ord0_3 (a b c : Tile) (k : Nat) : ref10_orders (k + 20) [a, b, c] = some [[a, b, c], [a, c, b], [b, a, c], [b, c, a], [c, a, b], [c, b, a]] := by kernel_rfl
theorem ord0_eq {s : List Tile} (hs : s.length ≤ 3) {k : Nat} (hk : 20 ≤ k) : ref10_orders k s = some (ord0 s) := by
  obtain ⟨k, rfl⟩ : ∃ m, k = m + 20 := ⟨k - 20, by omega⟩
  match s, hs with
  | [], _ => exact ord0_0 k
  | [a], _ => exact ord0_1 a k
  | [a, b], _ => exact ord0_2 a b k
  | [a, b, c], _ => exact ord0_3 a b c k
theorem ord0_mem {s y : List Tile} (hs : s.length ≤ 3) : y ∈ ord0 s ↔ y ∈ ordL s := by
  match s, hs with
  | [], _ => exact Iff.rfl
  | [a], _ => exact Iff.rfl
  | [a, b], _ => exact Iff.rfl
  | [a, b, c], _ => simp only [ord0, ordL, List.mem_cons, List.not_mem_nil, or_false]; grind
theorem ord0_ne (s : List Tile) (hs : s.length ≤ 3) : ∃ y ys, ord0 s = y :: ys := by
  match s, hs with
  | [], _ => exact ⟨_, _, rfl⟩
  | [a], _ => exact ⟨_, _, rfl⟩
  | [a, b], _ => exact ⟨_, _, rfl⟩
  | [a, b, c], _ => exact ⟨_, _, rfl⟩
theorem can_l0 {L : List (List Tile)} (hL : ∀ y ∈ L, y.length ≤ 3) (hl : L.length ≤ 1000) : ∀ (d x k : Nat) (m : List Tile), x + d = L.length → 200000 + d < k → m.length ≤ 3 → ref10_Canon.l0 k m x L = some ((L.drop x).foldl minF m)
  | 0, x, k, m, e, hk, hm => by
    obtain ⟨k, rfl⟩ : ∃ q, k = q + 1 := ⟨k - 1, by omega⟩
    rw [ref10_Canon.l0, if_neg (by simp; omega), List.drop_of_length_le (by omega)]; rfl
  | d + 1, x, k, m, e, hk, hm => by
    obtain ⟨k, rfl⟩ : ∃ q, k = q + 1 := ⟨k - 1, by omega⟩
    have hwx : w64 ((x : Int) + 1) = ((x + 1 : Nat) : Int) := by rw [w64_id (by omega) (by omega)]; rfl
    have hx : x < L.length := by omega
    have hy := hL _ (List.getElem_mem hx)
    have r1 : rdD L (x : Int) [] = L[x] := rdD_get hx _
    have hml : (minF m L[x]).length ≤ 3 := minF_len hm hy
    have ih := can_l0 hL hl d (x + 1) k (minF m L[x]) (by omega) (by omega) hml
    rw [ref10_Canon.l0, if_pos (by simpa using hx), if_pos (by omega), r1, named_eq (by omega) (by omega), Option.bind_some, bef0_eq (by rw [rn_len]; omega) (by omega) (by omega), Option.bind_some, List.drop_eq_getElem_cons hx, List.foldl_cons, hwx, ← ih]
    unfold minF
    cases befB (rn L[x]) m <;> rfl
theorem canon0_eq {s : List Tile} (hs : s.length ≤ 3) {k : Nat} (hk : 300000 < k) : ref10_Canon k s = some (canF s) := by
  obtain ⟨y, ys, e⟩ := ord0_ne s hs
  have hall : ∀ z ∈ ord0 s, z.length ≤ 3 := fun z hz => by rw [(ordL_mem hs ((ord0_mem hs).1 hz)).length_eq]; exact hs
  have hlen : (ord0 s).length ≤ 1000 := by
    match s, hs with
    | [], _ => decide
    | [a], _ => simp [ord0, ordL]
    | [a, b], _ => simp [ord0, ordL]
    | [a, b, c], _ => simp [ord0]
  have hy0 := hall y (by rw [e]; exact List.mem_cons_self)
  have h := can_l0 hall hlen ((ord0 s).length - 1) 1 k (rn y) (by rw [e, List.length_cons]; omega) (by omega) (by rw [rn_len]; exact hy0)
  have h : ref10_Canon.l0 k (rn y) 1 (ord0 s) = _ := h
  unfold ref10_Canon
  have r0 : rdD (ord0 s) (0 : Int) [] = y := by rw [e]; rfl
  rw [ord0_eq hs (by omega), Option.bind_some, if_pos (by rw [e, List.length_cons]; omega), r0, named_eq (by omega) (by omega), Option.bind_some, h]
  show some ((List.drop 1 (ord0 s)).foldl minF (rn y)) = _
  congr 1
  rw [e]
  show ys.foldl minF (rn y) = _
  obtain ⟨f1, f2, f3⟩ := fold_min ys (rn y)
  obtain ⟨⟨z, hz, ez⟩, mz⟩ := canF_spec hs
  have b1 : befB (canF s) (ys.foldl minF (rn y)) = false := by
    have hz2 := (ord0_mem hs).2 hz
    rw [e] at hz2
    rw [ez]
    rcases List.mem_cons.1 hz2 with rfl | h
    · exact f2
    · exact f3 z h
  have b2 : befB (ys.foldl minF (rn y)) (canF s) = false := by
    rcases f1 with f1 | ⟨w, hw, f1⟩
    · rw [f1]; exact mz y ((ord0_mem hs).1 (by rw [e]; exact List.mem_cons_self))
    · rw [f1]; exact mz w ((ord0_mem hs).1 (by rw [e]; exact List.mem_cons_of_mem _ hw))
  rcases ltL_tot (numL (ys.foldl minF (rn y))) (numL (canF s)) with h | h | h
  · exact numL_inj h
  · have b2 : ltL (numL (ys.foldl minF (rn y))) (numL (canF s)) = false := b2
    rw [b2] at h; cases h
  · have b1 : ltL (numL (canF s)) (numL (ys.foldl minF (rn y))) = false := b1
    rw [b1] at h; cases h
end Gp
set_option linter.unusedVariables false
set_option linter.unusedSimpArgs false
namespace Gp
open Gw Gq
/-! ### the reference's Least -/
theorem get6s {a : A6_Int} {i j : Int} (v : Int) (i0 : 0 ≤ i) (i1 : i < 6) (j0 : 0 ≤ j) (j1 : j < 6) : A6_Int.get (A6_Int.set a j v) i = if i = j then v else A6_Int.get a i := by
  have hi : i = 0 ∨ i = 1 ∨ i = 2 ∨ i = 3 ∨ i = 4 ∨ i = 5 := by omega
  have hj : j = 0 ∨ j = 1 ∨ j = 2 ∨ j = 3 ∨ j = 4 ∨ j = 5 := by omega
  rcases hi with rfl | rfl | rfl | rfl | rfl | rfl <;> rcases hj with rfl | rfl | rfl | rfl | rfl | rfl <;> rfl
def NA (a : A6_Int) (met : List Int) : Prop := ∀ c, 0 ≤ c → c < 6 → A6_Int.get a c = if c ∈ met then ixM met c + 1 else 0
theorem ixM_bd {met : List Int} {c : Int} (h : c ∈ met) : 0 ≤ ixM met c ∧ ixM met c < met.length := by
  have := List.idxOf_lt_length_of_mem h
  unfold ixM; omega
theorem meet_ok {a : A6_Int} {met : List Int} {c : Int} (h : NA a met) (c0 : 0 ≤ c) (c6 : c < 6) (hl : met.length ≤ 1000) : ∃ a', ref10_meet a met.length c = some (ixM (addM met c) c, a', ((addM met c).length : Int)) ∧ NA a' (addM met c) := by
  have hg := h c c0 c6
  unfold ref10_meet
  rw [if_pos ⟨c0, c6⟩]
  by_cases hc : c ∈ met
  · rw [if_pos hc] at hg
    have hb := ixM_bd hc
    have ha : addM met c = met := by unfold addM; rw [if_pos hc]
    refine ⟨a, ?_, by rw [ha]; exact h⟩
    rw [hg, if_neg (by rw [beq_iff_eq]; omega), Option.bind_some, ha]
    simp only [hg]
    rw [w64_id (by omega) (by omega)]
    congr 2
    omega
  · rw [if_neg hc] at hg
    have ha : addM met c = met ++ [c] := by unfold addM; rw [if_neg hc]
    have hw : w64 ((met.length : Int) + 1) = ((met.length + 1 : Nat) : Int) := by rw [w64_id (by omega) (by omega)]; rfl
    obtain ⟨x1, x2⟩ := add_ix met c
    have hi : met.idxOf c = met.length := List.idxOf_eq_length hc
    refine ⟨A6_Int.set a c ((met.length + 1 : Nat) : Int), ?_, fun d d0 d6 => ?_⟩
    · rw [hg, if_pos (by rfl), Option.bind_some, hw, x1, hi, ha, List.length_append]
      simp only
      rw [get6s _ c0 c6 c0 c6, if_pos rfl, w64_id (by omega) (by omega)]
      congr 2
      omega
    · rw [get6s _ d0 d6 c0 c6, ha]
      by_cases e : d = c
      · subst e
        rw [if_pos rfl, if_pos (by simp), ← ha, x1, hi]; rfl
      · rw [if_neg e, h d d0 d6]
        by_cases hd : d ∈ met
        · rw [if_pos hd, if_pos (by simp [hd])]
          unfold ixM
          rw [List.idxOf_append, if_pos hd]
        · rw [if_neg hd, if_neg (by simp [hd, e])]
def numT (t : Tile) : List Int := [t.N, t.E, t.S, t.W]
def fewF (s : List Tile) : List Int → List Int → Nat → List Nat → Bool
  | _, _, _, [] => false
  | up, sd, at_, j :: o => if s.length ≤ j then fewF s up sd at_ o else
    let t := s.getD j z_Tile
    let up1 := addM up t.N
    let sd1 := addM sd t.E
    let up2 := addM up1 t.S
    let sd2 := addM sd1 t.W
    let x : Tile := ⟨ixM up1 t.N, ixM sd1 t.E, ixM up2 t.S, ixM sd2 t.W⟩
    let u := s.getD at_ z_Tile
    if x = u then fewF s up2 sd2 (at_ + 1) o else ltL (numT x) (numT u)
theorem few_l1 (k : Nat) (t u : Tile) (x : Tile) (a b : A6_Int) (p q : Int) : ref10_fewer.l1 (k + 10) 0 (t.N, t.E, t.S, t.W, u.N, u.E, u.S, u.W) (a, b, p, q, (A4_Int.mk x.N x.E x.S x.W)) = some (if x = u then .inr () else .inl (ltL (numT x) (numT u))) := by
  have w1 : w64 (0 + 1) = 1 := by decide
  have w2 : w64 (1 + 1) = 2 := by decide
  have w3 : w64 (2 + 1) = 3 := by decide
  have w4 : w64 (3 + 1) = 4 := by decide
  have key : x = u ↔ x.N = u.N ∧ x.E = u.E ∧ x.S = u.S ∧ x.W = u.W := by cases x; cases u; simp [Tile.mk.injEq]
  have g0 : ∀ a b c d : Int, A4_Int.get (A4_Int.mk a b c d) 0 = a := fun a b c d => rfl
  have g1 : ∀ a b c d : Int, A4_Int.get (A4_Int.mk a b c d) 1 = b := fun a b c d => rfl
  have g2 : ∀ a b c d : Int, A4_Int.get (A4_Int.mk a b c d) 2 = c := fun a b c d => rfl
  have g3 : ∀ a b c d : Int, A4_Int.get (A4_Int.mk a b c d) 3 = d := fun a b c d => rfl
  unfold numT
  rw [ref10_fewer.l1, if_pos (by decide), if_pos (by decide), w1]
  simp only [g0]
  by_cases h0 : x.N = u.N
  · rw [if_neg (by simp [h0])]
    rw [ref10_fewer.l1, if_pos (by decide), if_pos (by decide), w2]
    simp only [g1]
    by_cases h1 : x.E = u.E
    · rw [if_neg (by simp [h1])]
      rw [ref10_fewer.l1, if_pos (by decide), if_pos (by decide), w3]
      simp only [g2]
      by_cases h2 : x.S = u.S
      · rw [if_neg (by simp [h2])]
        rw [ref10_fewer.l1, if_pos (by decide), if_pos (by decide), w4]
        simp only [g3]
        by_cases h3 : x.W = u.W
        · rw [if_neg (by simp [h3]), ref10_fewer.l1, if_neg (by decide), if_pos (key.2 ⟨h0, h1, h2, h3⟩)]
        · rw [if_pos (by simpa using h3), if_neg (fun h => h3 (key.1 h).2.2.2)]
          simp [ltL, h0, h1, h2, h3]
      · rw [if_pos (by simpa using h2), if_neg (fun h => h2 (key.1 h).2.2.1)]
        simp [ltL, h0, h1, h2]
    · rw [if_pos (by simpa using h1), if_neg (fun h => h1 (key.1 h).2.1)]
      simp [ltL, h0, h1]
  · rw [if_pos (by simpa using h0), if_neg (fun h => h0 (key.1 h).1)]
    simp [ltL, h0]
def c6t (t : Tile) : Prop := ((0 ≤ t.N ∧ t.N < 6) ∧ (0 ≤ t.S ∧ t.S < 6)) ∧ (0 ≤ t.E ∧ t.E < 6) ∧ 0 ≤ t.W ∧ t.W < 6
theorem few_l0 {s : List Tile} (hs : s.length ≤ 100) (hc : ∀ t ∈ s, c6t t) {o : List Nat} (ho : o.length ≤ 100) : ∀ (d x k : Nat) (a b : A6_Int) (up sd : List Int) (at_ : Nat), x + d = o.length → d + 10 < k → NA a up → NA b sd → up.length + 2 * d ≤ 500 → sd.length + 2 * d ≤ 500 → at_ + ((o.drop x).filter (fun j => decide (j < s.length))).length ≤ s.length →
    (ref10_fewer.l0 k a b up.length sd.length at_ x s (o.map fun (j : Nat) => (j : Int))).bind (fun y => sumb y (fun r => some r) (fun _ => some false)) = some (fewF s up sd at_ (o.drop x))
  | 0, x, k, a, b, up, sd, at_, e, hk, ha, hb, hu, hd, hat => by
    obtain ⟨k, rfl⟩ : ∃ m, k = m + 1 := ⟨k - 1, by omega⟩
    rw [ref10_fewer.l0, if_neg (by simp; omega), List.drop_of_length_le (by omega)]; rfl
  | d + 1, x, k, a, b, up, sd, at_, e, hk, ha, hb, hu, hd, hat => by
    obtain ⟨k, rfl⟩ : ∃ m, k = m + 11 := ⟨k - 11, by omega⟩
    have hwx : w64 ((x : Int) + 1) = ((x + 1 : Nat) : Int) := by rw [w64_id (by omega) (by omega)]; rfl
    have hx : x < o.length := by omega
    have r1 : rdD (o.map fun (j : Nat) => (j : Int)) (x : Int) 0 = (o[x] : Int) := by
      rw [rdD_get (by rw [List.length_map]; exact hx), List.getElem_map]
    rw [ref10_fewer.l0, if_pos (by simp; omega), if_pos (by simp; omega), r1, hwx, List.drop_eq_getElem_cons hx, fewF]
    rw [List.drop_eq_getElem_cons hx, List.filter_cons] at hat
    by_cases hj : s.length ≤ o[x]
    · rw [if_neg (by simp; omega)] at hat
      rw [if_pos (by rw [decide_eq_true_eq]; omega), Option.bind_some, if_pos hj]
      exact few_l0 hs hc ho d (x + 1) (k + 10) a b up sd at_ (by omega) (by omega) ha hb (by omega) (by omega) hat
    · have hj2 : o[x] < s.length := by omega
      rw [if_pos (by simpa using hj2), List.length_cons] at hat
      have hau : at_ < s.length := by omega
      have r2 : rdD s (o[x] : Int) z_Tile = s[o[x]] := rdD_get hj2 _
      have r3 : rdD s (at_ : Int) z_Tile = s[at_] := rdD_get hau _
      have g1 : s.getD o[x] z_Tile = s[o[x]] := by rw [List.getD_eq_getElem?_getD, List.getElem?_eq_getElem hj2]; rfl
      have g2 : s.getD at_ z_Tile = s[at_] := by rw [List.getD_eq_getElem?_getD, List.getElem?_eq_getElem hau]; rfl
      obtain ⟨⟨n1, n2⟩, n3, n4⟩ := hc _ (List.getElem_mem hj2)
      have l1 := addM_len up s[o[x]].N
      have l2 := addM_len (addM up s[o[x]].N) s[o[x]].S
      have l3 := addM_len sd s[o[x]].E
      have l4 := addM_len (addM sd s[o[x]].E) s[o[x]].W
      obtain ⟨a1, m1, q1⟩ := meet_ok ha n1.1 n1.2 (by omega)
      obtain ⟨b1, m2, q2⟩ := meet_ok hb n3.1 n3.2 (by omega)
      obtain ⟨a2, m3, q3⟩ := meet_ok q1 n2.1 n2.2 (by omega)
      obtain ⟨b2, m4, q4⟩ := meet_ok q2 n4.1 n4.2 (by omega)
      have hwa : w64 ((at_ : Int) + 1) = ((at_ + 1 : Nat) : Int) := by rw [w64_id (by omega) (by omega)]; rfl
      have f1 := few_l1 k s[o[x]] s[at_] ⟨ixM (addM up s[o[x]].N) s[o[x]].N, ixM (addM sd s[o[x]].E) s[o[x]].E, ixM (addM (addM up s[o[x]].N) s[o[x]].S) s[o[x]].S, ixM (addM (addM sd s[o[x]].E) s[o[x]].W) s[o[x]].W⟩ a2 b2 ((addM (addM up s[o[x]].N) s[o[x]].S).length : Int) ((addM (addM sd s[o[x]].E) s[o[x]].W).length : Int)
      simp only at f1
      rw [if_neg (by rw [decide_eq_true_eq]; omega), if_pos (by omega), if_pos (by omega), Option.bind_some, r2, r3, if_neg (by omega)]
      simp only [m1, m2, m3, m4, Option.bind_some, f1, g1, g2]
      have ih := few_l0 hs hc ho d (x + 1) (k + 10) a2 b2 (addM (addM up s[o[x]].N) s[o[x]].S) (addM (addM sd s[o[x]].E) s[o[x]].W) (at_ + 1) (by omega) (by omega) q3 q4 (by omega) (by omega) (by omega)
      by_cases he : (⟨ixM (addM up s[o[x]].N) s[o[x]].N, ixM (addM sd s[o[x]].E) s[o[x]].E, ixM (addM (addM up s[o[x]].N) s[o[x]].S) s[o[x]].S, ixM (addM (addM sd s[o[x]].E) s[o[x]].W) s[o[x]].W⟩ : Tile) = s[at_]
      · rw [if_pos he, if_pos he]
        simp only [sumb, Option.bind_some, hwa]
        exact ih
      · rw [if_neg he, if_neg he]
        rfl
def perS (s : List Tile) (o : List Nat) : List Tile := (o.filter (fun j => decide (j < s.length))).map fun j => s.getD j z_Tile
theorem ltL_app : ∀ (a b c d : List Int), a.length = b.length → ltL (a ++ c) (b ++ d) = if a = b then ltL c d else ltL a b
  | [], [], c, d, _ => rfl
  | [], _ :: _, _, _, h => by simp at h
  | _ :: _, [], _, _, h => by simp at h
  | x :: a, y :: b, c, d, h => by
    simp only [List.cons_append]
    rw [ltL, ltL, ltL_app a b c d (by simpa using h)]
    by_cases hxy : x = y
    · subst hxy
      by_cases hab : a = b
      · subst hab; simp
      · rw [if_neg hab, if_neg (fun h => hab (List.cons.inj h).2)]
    · rw [if_neg (fun h => hxy (List.cons.inj h).1), decide_eq_false hxy]
      simp
theorem fewF_eq {s : List Tile} : ∀ (o : List Nat) (up sd : List Int) (at_ : Nat), at_ + (perS s o).length = s.length → fewF s up sd at_ o = ltL (numL (rnL up sd (perS s o))) (numL (s.drop at_))
  | [], up, sd, at_, h => by
    rw [fewF]
    have : perS s [] = [] := rfl
    rw [this, List.length_nil] at h
    rw [this, List.drop_of_length_le (by omega)]; rfl
  | j :: o, up, sd, at_, h => by
    rw [fewF]
    by_cases hj : s.length ≤ j
    · have : perS s (j :: o) = perS s o := by unfold perS; rw [List.filter_cons, if_neg (by simp; omega)]
      rw [if_pos hj, this]
      rw [this] at h
      exact fewF_eq o up sd at_ h
    · have hp : perS s (j :: o) = s.getD j z_Tile :: perS s o := by unfold perS; rw [List.filter_cons, if_pos (by simp; omega), List.map_cons]
      rw [hp, List.length_cons] at h
      have hau : at_ < s.length := by omega
      have g2 : s.getD at_ z_Tile = s[at_] := by rw [List.getD_eq_getElem?_getD, List.getElem?_eq_getElem hau]; rfl
      rw [if_neg hj, hp, rnL, List.drop_eq_getElem_cons hau]
      simp only [g2]
      generalize hx : (⟨ixM (addM up (s.getD j z_Tile).N) (s.getD j z_Tile).N, ixM (addM sd (s.getD j z_Tile).E) (s.getD j z_Tile).E, ixM (addM (addM up (s.getD j z_Tile).N) (s.getD j z_Tile).S) (s.getD j z_Tile).S, ixM (addM (addM sd (s.getD j z_Tile).E) (s.getD j z_Tile).W) (s.getD j z_Tile).W⟩ : Tile) = x
      have e1 : ∀ (y : Tile) (r : List Tile), numL (y :: r) = numT y ++ numL r := fun y r => rfl
      have e2 : numT x = numT s[at_] ↔ x = s[at_] := by
        unfold numT
        cases x; cases s[at_]
        simp [Tile.mk.injEq]
      rw [e1, e1, ltL_app (numT x) (numT s[at_]) _ _ rfl]
      by_cases he : x = s[at_]
      · rw [if_pos he, if_pos (e2.2 he)]
        exact fewF_eq o _ _ (at_ + 1) (by omega)
      · rw [if_neg he, if_neg (fun h => he (e2.1 h))]
def plN : List (List Nat) := [[0, 1, 2], [0, 2, 1], [1, 0, 2], [1, 2, 0], [2, 0, 1], [2, 1, 0]]
theorem NA0 : NA (A6_Int.mk 0 0 0 0 0 0) [] := fun c c0 c6 => by
  have : c = 0 ∨ c = 1 ∨ c = 2 ∨ c = 3 ∨ c = 4 ∨ c = 5 := by omega
  rcases this with rfl | rfl | rfl | rfl | rfl | rfl <;> rfl
theorem perS_len {s : List Tile} (hs : s.length ≤ 3) {j : Nat} (hj : j < 6) : (perS s (plN.getD j [])).length = s.length := by
  have hj : j = 0 ∨ j = 1 ∨ j = 2 ∨ j = 3 ∨ j = 4 ∨ j = 5 := by omega
  match s, hs with
  | [], _ => rcases hj with rfl | rfl | rfl | rfl | rfl | rfl <;> rfl
  | [a], _ => rcases hj with rfl | rfl | rfl | rfl | rfl | rfl <;> rfl
  | [a, b], _ => rcases hj with rfl | rfl | rfl | rfl | rfl | rfl <;> rfl
  | [a, b, c], _ => rcases hj with rfl | rfl | rfl | rfl | rfl | rfl <;> rfl
theorem perS_mem {s y : List Tile} (hs : s.length ≤ 3) : y ∈ ordL s ↔ ∃ j, j < 6 ∧ y = perS s (plN.getD j []) := by
  constructor
  · intro h
    match s, hs, h with
    | [], _, h => rw [ordL, List.mem_singleton] at h; exact ⟨0, by omega, h⟩
    | [a], _, h => rw [ordL, List.mem_singleton] at h; exact ⟨0, by omega, h⟩
    | [a, b], _, h =>
      simp only [ordL, List.mem_cons, List.not_mem_nil, or_false] at h
      rcases h with rfl | rfl
      · exact ⟨0, by omega, rfl⟩
      · exact ⟨2, by omega, rfl⟩
    | [a, b, c], _, h =>
      simp only [ordL, List.mem_cons, List.not_mem_nil, or_false] at h
      rcases h with rfl | rfl | rfl | rfl | rfl | rfl
      · exact ⟨0, by omega, rfl⟩
      · exact ⟨1, by omega, rfl⟩
      · exact ⟨2, by omega, rfl⟩
      · exact ⟨3, by omega, rfl⟩
      · exact ⟨5, by omega, rfl⟩
      · exact ⟨4, by omega, rfl⟩
  · rintro ⟨j, hj, rfl⟩
    have hj : j = 0 ∨ j = 1 ∨ j = 2 ∨ j = 3 ∨ j = 4 ∨ j = 5 := by omega
    match s, hs with
    | [], _ => rcases hj with rfl | rfl | rfl | rfl | rfl | rfl <;> exact List.mem_cons_self
    | [a], _ => rcases hj with rfl | rfl | rfl | rfl | rfl | rfl <;> exact List.mem_cons_self
    | [a, b], _ => rcases hj with rfl | rfl | rfl | rfl | rfl | rfl <;> simp [ordL, perS, plN]
    | [a, b, c], _ => rcases hj with rfl | rfl | rfl | rfl | rfl | rfl <;> simp [ordL, perS, plN]
theorem fewer_eq {s : List Tile} (hs : s.length ≤ 3) (hc : ∀ t ∈ s, c6t t) {j : Nat} (hj : j < 6) {k : Nat} (hk : 100 < k) : ref10_fewer k s ((plN.getD j []).map fun (j : Nat) => (j : Int)) = some (befB (rn (perS s (plN.getD j []))) s) := by
  have hl : (plN.getD j []).length = 3 := by
    have hj : j = 0 ∨ j = 1 ∨ j = 2 ∨ j = 3 ∨ j = 4 ∨ j = 5 := by omega
    rcases hj with rfl | rfl | rfl | rfl | rfl | rfl <;> rfl
  have hp := perS_len hs hj
  have hp2 : ((plN.getD j []).filter (fun j => decide (j < s.length))).length = s.length := by
    unfold perS at hp; rw [List.length_map] at hp; exact hp
  have h := few_l0 (by omega) hc (o := plN.getD j []) (by omega) 3 0 k _ _ [] [] 0 (by omega) (by omega) NA0 NA0 (by simp) (by simp) (by rw [List.drop_zero, hp2]; omega)
  rw [List.drop_zero, fewF_eq _ _ _ _ (by omega), List.drop_zero] at h
  unfold ref10_fewer
  exact h
theorem leastR_l0 {s : List Tile} (hs : s.length ≤ 3) (hc : ∀ t ∈ s, c6t t) : ∀ (d x k : Nat), x + d = 6 → 100 + d < k → ref10_Least.l0 k x s = some (if ((List.range 6).drop x).all (fun j => !befB (rn (perS s (plN.getD j []))) s) = true then .inr () else .inl false)
  | 0, x, k, e, hk => by
    obtain ⟨k, rfl⟩ : ∃ m, k = m + 1 := ⟨k - 1, by omega⟩
    rw [ref10_Least.l0, if_neg (by simp; omega), List.drop_of_length_le (by simp; omega)]; rfl
  | d + 1, x, k, e, hk => by
    obtain ⟨k, rfl⟩ : ∃ m, k = m + 1 := ⟨k - 1, by omega⟩
    have hwx : w64 ((x : Int) + 1) = ((x + 1 : Nat) : Int) := by rw [w64_id (by omega) (by omega)]; rfl
    have hx : x < 6 := by omega
    have r1 : rdD ([[0, 1, 2], [0, 2, 1], [1, 0, 2], [1, 2, 0], [2, 0, 1], [2, 1, 0]] : List (List Int)) (x : Int) [] = (plN.getD x []).map fun (j : Nat) => (j : Int) := by
      have : x = 0 ∨ x = 1 ∨ x = 2 ∨ x = 3 ∨ x = 4 ∨ x = 5 := by omega
      rcases this with rfl | rfl | rfl | rfl | rfl | rfl <;> rfl
    have hxr : x < (List.range 6).length := by simpa using hx
    rw [ref10_Least.l0, if_pos (by simp; omega), if_pos (by simp; omega), r1, fewer_eq hs hc hx (by omega), Option.bind_some, hwx, leastR_l0 hs hc d (x + 1) k (by omega) (by omega), List.drop_eq_getElem_cons hxr, List.all_cons, List.getElem_range]
    cases befB (rn (perS s (plN.getD x []))) s <;> simp
theorem rn_idem {s : List Tile} (hs : s.length ≤ 3) (h : canF s = s) : rn s = s := by
  obtain ⟨⟨y, hy, e⟩, _⟩ := canF_spec hs
  obtain ⟨U, V, h1, h2, _, _⟩ := rn_form y
  have : rn (rn y) = rn y := by
    rw [h2, rn_map (P := fun c => c ∈ U) (Q := fun c => c ∈ V) (fun a b ha hb h => ixM_inj ha hb h) (fun a b ha hb h => ixM_inj ha hb h) h1, h2]
  rw [← h, e, this]
theorem rn_c6 {s : List Tile} (hs : s.length ≤ 3) (h : rn s = s) : ∀ t ∈ s, c6t t := by
  obtain ⟨U, V, h1, h2, h3, h4⟩ := rn_form s
  intro t ht
  rw [← h, h2] at ht
  obtain ⟨u, hu, rfl⟩ := List.mem_map.1 ht
  obtain ⟨⟨a1, a2⟩, a3, a4⟩ := h1 u hu
  have := ixM_bd a1; have := ixM_bd a2; have := ixM_bd a3; have := ixM_bd a4
  unfold c6t rT
  simp only
  omega
theorem self_ord {s : List Tile} (hs : s.length ≤ 3) : s ∈ ordL s := by
  match s, hs with
  | [], _ => exact List.mem_cons_self
  | [a], _ => exact List.mem_cons_self
  | [a, b], _ => exact List.mem_cons_self
  | [a, b, c], _ => exact List.mem_cons_self
theorem least0_eq {s : List Tile} (hs : s.length ≤ 3) {k : Nat} (hk : 200000 < k) : ref10_Least k s = some (decide (canF s = s)) := by
  unfold ref10_Least
  rw [named_eq (by omega) (by omega), Option.bind_some, same_eq (by rw [rn_len]; omega) (by omega), Option.bind_some]
  by_cases h : rn s = s
  · have hl := leastR_l0 hs (rn_c6 hs h) 6 0 k (by omega) (by omega)
    rw [List.drop_zero] at hl
    have hl : ref10_Least.l0 k 0 s = _ := hl
    rw [decide_eq_true h, if_neg (by decide), hl, Option.bind_some]
    have key : ((List.range 6).all fun j => !befB (rn (perS s (plN.getD j []))) s) = true ↔ canF s = s := by
      rw [List.all_eq_true]
      simp only [List.mem_range, Bool.not_eq_true']
      constructor
      · intro ha
        obtain ⟨⟨y, hy, e⟩, mz⟩ := canF_spec hs
        obtain ⟨j, hj, ey⟩ := (perS_mem hs).1 hy
        have b1 := ha j hj
        rw [← ey, ← e] at b1
        have b2 := mz s (self_ord hs)
        rw [h] at b2
        rcases ltL_tot (numL (canF s)) (numL s) with h | h | h
        · exact numL_inj h
        · have b1 : ltL (numL (canF s)) (numL s) = false := b1
          rw [b1] at h; cases h
        · have b2 : ltL (numL s) (numL (canF s)) = false := b2
          rw [b2] at h; cases h
      · intro hc j hj
        have := (canF_spec hs).2 _ ((perS_mem hs).2 ⟨j, hj, rfl⟩)
        rw [hc] at this
        exact this
    by_cases hc : canF s = s
    · rw [if_pos (key.2 hc), decide_eq_true hc]; rfl
    · rw [if_neg (fun h => hc (key.1 h)), decide_eq_false hc]; rfl
  · rw [decide_eq_false h, if_pos (by decide), decide_eq_false (fun hc => h (rn_idem hs hc))]
/-! ### the reference's list -/
theorem all_l2 {t : List (List Int)} {i j n : Nat} (hi : i < t.length) (hj : j < t.length) (hu : t[i].length = 2 * n) (hv : t[j].length = 2 * n) (hn : n ≤ 1000) : ∀ (d x k : Nat) (acc : List Tile), x + d = n → d < k → acc.length = x → ref10_All.l2 k acc x n t i j = some (acc ++ mkS (t[i].drop (2 * x)) (t[j].drop (2 * x)))
  | 0, x, k, acc, e, hk, ha => by
    obtain ⟨k, rfl⟩ : ∃ m, k = m + 1 := ⟨k - 1, by omega⟩
    have hxn : x = n := by omega
    subst hxn
    rw [ref10_All.l2, if_neg (by simp), mkS_end hu, List.append_nil]
  | d + 1, x, k, acc, e, hk, ha => by
    obtain ⟨k, rfl⟩ : ∃ m, k = m + 1 := ⟨k - 1, by omega⟩
    have hwx : w64 ((x : Int) + 1) = ((x + 1 : Nat) : Int) := by rw [w64_id (by omega) (by omega)]; rfl
    have hw2 : w64 (2 * (x : Int)) = ((2 * x : Nat) : Int) := by rw [w64_id (by omega) (by omega)]; rfl
    have hw3 : w64 (((2 * x : Nat) : Int) + 1) = ((2 * x + 1 : Nat) : Int) := by rw [w64_id (by omega) (by omega)]; rfl
    have q1 : rdD t (i : Int) [] = t[i] := rdD_get hi _
    have q2 : rdD t (j : Int) [] = t[j] := rdD_get hj _
    have r1 : rdD t[i] ((2 * x : Nat) : Int) 0 = t[i][2 * x] := rdD_get (by omega) 0
    have r2 : rdD t[j] ((2 * x : Nat) : Int) 0 = t[j][2 * x] := rdD_get (by omega) 0
    have r3 : rdD t[i] ((2 * x + 1 : Nat) : Int) 0 = t[i][2 * x + 1] := rdD_get (by omega) 0
    have r4 : rdD t[j] ((2 * x + 1 : Nat) : Int) 0 = t[j][2 * x + 1] := rdD_get (by omega) 0
    have ih := all_l2 hi hj hu hv hn d (x + 1) k (acc ++ [⟨t[i][2 * x], t[j][2 * x], t[i][2 * x + 1], t[j][2 * x + 1]⟩]) (by omega) (by omega) (by rw [List.length_append, ha]; rfl)
    rw [ref10_All.l2, if_pos (by rw [decide_eq_true_eq]; omega), hw2, hw3, q1, q2, if_pos (by omega), if_pos (by omega), if_pos (by omega), if_pos (by omega), if_pos (by omega), if_pos (by omega), r1, r2, r3, r4, if_pos (by rw [ha]; show x + 1 ≤ _; omega), hwx, ih, mkS_drop (x := x) hu hv (by omega), List.append_assoc]
    rfl
theorem all_l1 {t : List (List Int)} {i n : Nat} (hi : i < t.length) (ht : ∀ u ∈ t, u.length = 2 * n) (hn : n ≤ 3) (htl : t.length ≤ 1000) : ∀ (d x k : Nat) (acc : List (List Tile)), x + d = t.length → 300000 + d < k → acc.length + d ≤ 10000000000 → ref10_All.l1 k acc x n t i = some (acc ++ ((t.drop x).map (mkS t[i])).filter okS)
  | 0, x, k, acc, e, hk, ha => by
    obtain ⟨k, rfl⟩ : ∃ m, k = m + 1 := ⟨k - 1, by omega⟩
    rw [ref10_All.l1, if_neg (by simp; omega), List.drop_of_length_le (by omega)]
    show _ = some (acc ++ [])
    rw [List.append_nil]
  | d + 1, x, k, acc, e, hk, ha => by
    obtain ⟨k, rfl⟩ : ∃ m, k = m + 1 := ⟨k - 1, by omega⟩
    have hwx : w64 ((x : Int) + 1) = ((x + 1 : Nat) : Int) := by rw [w64_id (by omega) (by omega)]; rfl
    have hx : x < t.length := by omega
    have hu := ht _ (List.getElem_mem hi)
    have hv := ht _ (List.getElem_mem hx)
    have h2 := all_l2 hi hx hu hv (by omega) n 0 k [] (by omega) (by omega) rfl
    rw [List.nil_append, Nat.mul_zero, List.drop_zero, List.drop_zero] at h2
    have h2 : ref10_All.l2 k [] 0 n t i x = _ := h2
    have hm := (mkS_all n _ _ hu hv).1
    have he : [mkS t[i] t[x]].filter okS = if okS (mkS t[i] t[x]) = true then [mkS t[i] t[x]] else [] := by
      cases h : okS (mkS t[i] t[x]) <;> simp [h]
    have hstep : (if (x : Int) < (t.length : Int) then true else true) = true := by simp
    have ih := all_l1 hi ht hn htl d (x + 1) k (acc ++ [mkS t[i] t[x]].filter okS) (by omega) (by omega) (by have : ([mkS t[i] t[x]].filter okS).length ≤ 1 := List.length_filter_le _ _; rw [List.length_append]; omega)
    rw [ref10_All.l1, if_pos (by rw [decide_eq_true_eq]; omega), h2, Option.bind_some, valid01 _ (by omega) (by omega), Option.bind_some, hwx, List.drop_eq_getElem_cons hx, List.map_cons, show mkS t[i] t[x] :: (t.drop (x + 1)).map (mkS t[i]) = [mkS t[i] t[x]] ++ (t.drop (x + 1)).map (mkS t[i]) from rfl, List.filter_append, ← List.append_assoc, ← ih, he]
    unfold okS
    cases hv2 : validT (mkS t[i] t[x])
    · rw [if_neg (by decide), Option.bind_some, if_neg (by decide), Option.bind_some, if_neg (by simp), List.append_nil]
    · rw [if_pos rfl, least0_eq (by omega) (by omega), Option.bind_some, Option.bind_some, Bool.true_and]
      by_cases hc : canF (mkS t[i] t[x]) = mkS t[i] t[x]
      · rw [decide_eq_true hc, if_pos rfl, if_pos (by omega), Option.bind_some, if_pos rfl]
      · rw [decide_eq_false hc, if_neg (by decide), Option.bind_some, if_neg (by decide), List.append_nil]
theorem all_l0 {t : List (List Int)} {n : Nat} (ht : ∀ u ∈ t, u.length = 2 * n) (hn : n ≤ 3) (htl : t.length ≤ 1000) : ∀ (d x k : Nat) (acc : List (List Tile)), x + d = t.length → 400000 + d < k → acc.length + t.length * d ≤ 1000000000 → ref10_All.l0 k acc x n t = some (acc ++ (t.drop x).flatMap fun u => (t.map (mkS u)).filter okS)
  | 0, x, k, acc, e, hk, ha => by
    obtain ⟨k, rfl⟩ : ∃ m, k = m + 1 := ⟨k - 1, by omega⟩
    rw [ref10_All.l0, if_neg (by simp; omega), List.drop_of_length_le (by omega)]
    show _ = some (acc ++ [])
    rw [List.append_nil]
  | d + 1, x, k, acc, e, hk, ha => by
    obtain ⟨k, rfl⟩ : ∃ m, k = m + 1 := ⟨k - 1, by omega⟩
    have hwx : w64 ((x : Int) + 1) = ((x + 1 : Nat) : Int) := by rw [w64_id (by omega) (by omega)]; rfl
    have hx : x < t.length := by omega
    rw [Nat.mul_succ] at ha
    have h1 := all_l1 hx ht hn htl t.length 0 k acc (by omega) (by omega) (by omega)
    rw [List.drop_zero] at h1
    have h1 : ref10_All.l1 k acc 0 n t x = _ := h1
    have hl : ((t.map (mkS t[x])).filter okS).length ≤ t.length := by
      have := List.length_filter_le okS (t.map (mkS t[x]))
      rw [List.length_map] at this; exact this
    rw [ref10_All.l0, if_pos (by simpa using hx), h1, Option.bind_some, hwx, all_l0 ht hn htl d (x + 1) k _ (by omega) (by omega) (by rw [List.length_append]; omega), List.drop_eq_getElem_cons hx, List.flatMap_cons, List.append_assoc]
theorem all0_eq {n : Nat} (hn : n ≤ 3) {k : Nat} (hk : 500000 < k) : ref10_All k n = some (formL n) := by
  obtain ⟨m0, m1⟩ := exL_many hn
  have h := all_l0 (t := exL (2 * n) 0) (fun u hu => exL_len _ _ _ hu) hn (by omega) (exL (2 * n) 0).length 0 k [] (by omega) (by omega) (by
    have : (exL (2 * n) 0).length * (exL (2 * n) 0).length ≤ 203 * 203 := Nat.mul_le_mul m1 m1
    rw [List.length_nil]; omega)
  rw [List.drop_zero, List.nil_append] at h
  have h : ref10_All.l0 k [] 0 n (exL (2 * n) 0) = _ := h
  unfold ref10_All
  rw [w2n hn, grow_eq hn (by omega), Option.bind_some, h]; rfl
end Gp
set_option linter.unusedVariables false
set_option linter.unusedSimpArgs false
namespace Gp
open Gw Gq
/-! ### the sorted list -/
theorem insI_perm (lt : Nat → Nat → Bool) (x : Nat) : ∀ l : List Nat, (insI lt x l).Perm (x :: l)
  | [] => List.Perm.refl _
  | y :: r => by
    rw [insI]
    split
    · exact List.Perm.refl _
    · exact ((insI_perm lt x r).cons y).trans (List.Perm.swap x y r)
theorem srtI_perm (lt : Nat → Nat → Bool) : ∀ l : List Nat, (srtI lt l).Perm l
  | [] => List.Perm.refl _
  | x :: r => by
    rw [srtI]
    exact (insI_perm lt x _).trans ((srtI_perm lt r).cons x)
theorem sort_ok {Z : List (List Tile)} (hne : Z ≠ []) (hl : Z.length ≤ 100000000000) (hn : Z.Nodup) (h3 : ∀ s ∈ Z, s.length ≤ 1000) {k : Nat} (hk : 200000 < k) : ∃ R, sortP (census_before k) Z [] = some R ∧ R.Perm Z ∧ R.Pairwise (fun a b => befB a b = true) := by
  have hg : ∀ i, (hi : i < Z.length) → Z.getD i [] = Z[i] := fun i hi => by rw [List.getD_eq_getElem?_getD, List.getElem?_eq_getElem hi]; rfl
  have hc : ∀ i j, (hi : i < Z.length) → (hj : j < Z.length) → ∃ r : Int, census_before k Z[i] Z[j] = some r ∧ (r < 0 ↔ befB Z[i] Z[j] = true) := fun i j hi hj => by
    obtain ⟨r, h1, h2, _⟩ := before_eq (h3 _ (List.getElem_mem hi)) (h3 _ (List.getElem_mem hj)) hk
    exact ⟨r, h1, h2⟩
  have hlt : ∀ i j, (hi : i < Z.length) → (hj : j < Z.length) → ltI (census_before k) Z [] i j = befB Z[i] Z[j] := fun i j hi hj => by
    obtain ⟨r, h1, h2⟩ := hc i j hi hj
    unfold ltI cfI
    rw [Nat.mod_eq_of_lt hi, Nat.mod_eq_of_lt hj, hg i hi, hg j hj, h1, Option.getD_some, Bool.eq_iff_iff, decide_eq_true_eq]
    exact h2
  have hne2 : ∀ i j, (hi : i < Z.length) → (hj : j < Z.length) → i ≠ j → Z[i] ≠ Z[j] := fun i j hi hj hij e => by
    have hp := List.pairwise_iff_getElem.1 hn
    rcases Nat.lt_or_gt_of_ne hij with h | h
    · exact hp i j hi hj h e
    · exact hp j i hj hi h e.symm
  have ho : ordB (census_before k) Z [] = true := by
    unfold ordB
    simp only [List.all_eq_true, List.mem_range, Bool.and_eq_true]
    intro i hi j hj
    obtain ⟨r, h1, h2⟩ := hc i j hi hj
    refine ⟨⟨by rw [hg i hi, hg j hj, h1]; rfl, ?_⟩, fun m hm => ?_⟩
    · by_cases e : i = j
      · rw [if_pos e, hlt i j hi hj]
        subst e
        have : befB Z[i] Z[i] = false := ltL_irr _
        rw [this]; rfl
      · rw [if_neg e, hlt i j hi hj, hlt j i hj hi]
        have hd := hne2 i j hi hj e
        rcases ltL_tot (numL Z[i]) (numL Z[j]) with h | h | h
        · exact absurd (numL_inj h) hd
        · have h : befB Z[i] Z[j] = true := h
          have : befB Z[j] Z[i] = false := by
            cases h2 : befB Z[j] Z[i]
            · rfl
            · have := ltL_trans _ _ _ h h2
              rw [ltL_irr] at this; cases this
          rw [h, this]; rfl
        · have h : befB Z[j] Z[i] = true := h
          have : befB Z[i] Z[j] = false := by
            cases h2 : befB Z[i] Z[j]
            · rfl
            · have := ltL_trans _ _ _ h h2
              rw [ltL_irr] at this; cases this
          rw [h, this]; rfl
    · rw [hlt i j hi hj, hlt j m hj hm, hlt i m hi hm]
      cases h1 : befB Z[i] Z[j]
      · rfl
      · cases h2 : befB Z[j] Z[m]
        · rfl
        · have : befB Z[i] Z[m] = true := ltL_trans _ _ _ h1 h2
          rw [this]; rfl
  obtain ⟨o, _⟩ := ordB_ok ho
  refine ⟨(srtI (ltI (census_before k) Z []) (List.range Z.length)).map fun i => Z.getD i [], ?_, ?_, ?_⟩
  · unfold sortP
    rw [if_neg (by simp [hne]), if_pos hl, if_pos ho]
  · refine ((srtI_perm _ _).map _).trans ?_
    have : (List.range Z.length).map (fun i => Z.getD i []) = Z := by
      apply List.ext_getElem
      · rw [List.length_map, List.length_range]
      · intro i h1 h2
        rw [List.getElem_map, List.getElem_range, hg i h2]
    rw [this]
  · rw [List.pairwise_map]
    refine (srtI_pw o _ (fun y hy => List.mem_range.1 hy) List.nodup_range).imp_of_mem fun {a b} ha hb h => ?_
    have ha := List.mem_range.1 ((srtI_mem _ _ _).1 ha)
    have hb := List.mem_range.1 ((srtI_mem _ _ _).1 hb)
    rw [hlt a b ha hb] at h
    rw [hg a ha, hg b hb]
    exact h
theorem pw_uniqT {α : Type} {R : α → α → Prop} : ∀ (l m : List α), l.Pairwise R → m.Pairwise R → (∀ x, x ∈ l ↔ x ∈ m) → (∀ x y, R x y → R y x → False) → l = m
  | [], [], _, _, _, _ => rfl
  | [], y :: m, _, _, h, _ => by have := (h y).2 List.mem_cons_self; cases this
  | x :: l, [], _, _, h, _ => by have := (h x).1 List.mem_cons_self; cases this
  | x :: l, y :: m, hl, hm, h, ha => by
    rw [List.pairwise_cons] at hl hm
    have e : x = y := by
      refine Classical.byContradiction fun hne => ?_
      have h1 : x ∈ m := ((List.mem_cons.1 ((h x).1 List.mem_cons_self)).resolve_left hne)
      have h2 : y ∈ l := ((List.mem_cons.1 ((h y).2 List.mem_cons_self)).resolve_left fun e => hne e.symm)
      exact ha x y (hl.1 y h2) (hm.1 x h1)
    subst e
    have hx : x ∉ l := fun hx => ha x x (hl.1 x hx) (hl.1 x hx)
    have hx2 : x ∉ m := fun hx => ha x x (hm.1 x hx) (hm.1 x hx)
    rw [pw_uniqT l m hl.2 hm.2 (fun z => ⟨fun hz => ((List.mem_cons.1 ((h z).1 (List.mem_cons_of_mem _ hz))).resolve_left fun e => hx (e ▸ hz)), fun hz => ((List.mem_cons.1 ((h z).2 (List.mem_cons_of_mem _ hz))).resolve_left fun e => hx2 (e ▸ hz))⟩) ha]
theorem befB_as (x y : List Tile) (h1 : befB x y = true) (h2 : befB y x = true) : False := by
  have := ltL_trans _ _ _ h1 h2
  rw [ltL_irr] at this; cases this
def someS : Nat → List Tile
  | 0 => []
  | 1 => [⟨0, 0, 0, 0⟩]
  | 2 => [⟨0, 0, 0, 0⟩, ⟨0, 0, 0, 1⟩]
  | _ => [⟨0, 0, 0, 0⟩, ⟨0, 0, 0, 1⟩, ⟨0, 0, 1, 0⟩]
theorem forms_ok {n : Nat} (hn : n ≤ 3) {k : Nat} (hk : 400000 ≤ k) : ∃ R, census_forms k n = some R ∧ R.Perm (formL n) ∧ R.Pairwise (fun a b => befB a b = true) := by
  have hs : validT (someS n) = true ∧ (someS n).length = n := by
    have : n = 0 ∨ n = 1 ∨ n = 2 ∨ n = 3 := by omega
    rcases this with rfl | rfl | rfl | rfl <;> exact ⟨by decide +kernel, rfl⟩
  have hmem := canF_in hs.1 (by omega)
  rw [hs.2] at hmem
  obtain ⟨R, h1, h2, h3⟩ := sort_ok (Z := formL n) (fun e => by rw [e] at hmem; cases hmem) (by have := formL_many hn; omega) (formL_nodup n) (fun s hs => by have := formL_len hs; omega) (k := k) (by omega)
  exact ⟨R, by rw [forms_sort hn hk, h1], h2, h3⟩
theorem fewN_eq (n : Nat) (hn : n ≤ 3) : census_few (n : Int) = some true := by
  unfold census_few
  rw [decide_eq_true (by omega), decide_eq_true (by omega)]; rfl
theorem all_ok {n : Nat} (hn : n ≤ 3) {k : Nat} (hk : 400000 ≤ k) : ∃ R, census_forms k n = some R ∧ census_All k n = some (R, 0) ∧ R.Perm (formL n) ∧ R.Pairwise (fun a b => befB a b = true) := by
  obtain ⟨R, h1, h2, h3⟩ := forms_ok hn hk
  refine ⟨R, h1, ?_, h2, h3⟩
  unfold census_All
  rw [fewN_eq n hn, Option.bind_some, if_neg (by decide), h1]; rfl
/-! ### the example -/
def R4 : List (List Tile) := [[⟨0, 0, 0, 0⟩], [⟨0, 0, 0, 1⟩], [⟨0, 0, 1, 0⟩], [⟨0, 0, 1, 1⟩]]
theorem formL1 : formL 1 = R4 := by decide +kernel
theorem R4_pw : R4.Pairwise (fun a b => befB a b = true) := by decide +kernel
theorem count4 (k : Nat) : census_Count.l0 (k + 1000) 0 0 0 0 0 R4 = some (.inr (4, 1, 1, 2)) := by kernel_rfl
theorem same41 (k : Nat) : ref01_SameSet (k + 100) (rdD R4 (1 : Int) []) [(Tile.mk 0 0 0 1)] = some true := by kernel_rfl
theorem same42 (k : Nat) : ref01_SameSet (k + 100) (rdD R4 (2 : Int) []) [(Tile.mk 0 0 1 0)] = some true := by kernel_rfl
theorem awake10_ok {k : Nat} (hk : 400000 ≤ k) : law10_awake k = some true := by
  obtain ⟨R, h1, h2, h3, h4⟩ := all_ok (n := 1) (by omega) hk
  have e : R = R4 := pw_uniqT R R4 h4 R4_pw (fun x => by rw [← formL1]; exact h3.mem_iff) befB_as
  subst e
  have h1 : census_forms k 1 = some R4 := h1
  have h2 : census_All k 1 = some (R4, 0) := h2
  have c4 : census_Count k 1 = some (Tally.mk 4 1 1 2, 0) := by
    obtain ⟨k, rfl⟩ : ∃ m, k = m + 1000 := ⟨k - 1000, by omega⟩
    unfold census_Count
    rw [show census_few 1 = some true from fewN_eq 1 (by omega), Option.bind_some, if_neg (by decide), h1, Option.bind_some, count4 k]; rfl
  unfold law10_awake
  rw [h2, Option.bind_some, c4, Option.bind_some]
  obtain ⟨k, rfl⟩ : ∃ m, k = m + 100 := ⟨k - 100, by omega⟩
  simp only [same41, same42]
  rfl
/-! ### CensusAll -/
theorem all_l9 {R : List (List Tile)} {n : Nat} (hn : n ≤ 3) (hR : ∀ s ∈ R, s ∈ formL n) (hp : R.Pairwise (fun a b => befB a b = true)) (hl : R.length ≤ 1000000) : ∀ (d x k : Nat), x + d = R.length → 400000 + d < k → law10_CensusAll.l0 k x n (R, 0) = some (.inr ())
  | 0, x, k, e, hk => by
    obtain ⟨k, rfl⟩ : ∃ m, k = m + 1 := ⟨k - 1, by omega⟩
    rw [law10_CensusAll.l0, if_neg (by simp; omega)]
  | d + 1, x, k, e, hk => by
    obtain ⟨k, rfl⟩ : ∃ m, k = m + 1 := ⟨k - 1, by omega⟩
    have hx : x < R.length := by omega
    have hwx : w64 ((x : Int) + 1) = ((x + 1 : Nat) : Int) := by rw [w64_id (by omega) (by omega)]; rfl
    have r1 : rdD R (x : Int) [] = R[x] := rdD_get hx _
    have hm := hR _ (List.getElem_mem hx)
    have hlen := formL_len hm
    obtain ⟨_, hv, hc⟩ := formL_mem.1 hm
    have ih := all_l9 hn hR hp hl d (x + 1) k (by omega) (by omega)
    have f1 : ref01_Valid k R[x] = some true := by rw [valid01 _ (by omega) (by omega), hv]
    have f2 : ref10_Least k R[x] = some true := by rw [least0_eq (by omega) (by omega), decide_eq_true hc]
    have f3 : ref10_Canon k R[x] = some R[x] := by rw [canon0_eq (by omega) (by omega), hc]
    have f4 : ref01_SameSet k R[x] R[x] = some true := by rw [same_eq (by omega) (by omega), decide_eq_true rfl]
    have hb : 0 ≤ (x : Int) ∧ (x : Int) < (R.length : Int) := by omega
    rw [law10_CensusAll.l0, if_pos (by simpa using hx)]
    simp only [r1]
    rw [if_neg (by simp; omega), hwx, ih]
    simp only [if_pos hb, f1, f2, f3, f4, Option.bind_some, Bool.not_true, Bool.false_eq_true, if_false]
    by_cases h0 : 0 < x
    · have hw1 : w64 ((x : Int) - 1) = ((x - 1 : Nat) : Int) := by rw [w64_id (by omega) (by omega)]; omega
      have r2 : rdD R ((x - 1 : Nat) : Int) [] = R[x - 1] := rdD_get (by omega) _
      have hlen2 := formL_len (hR _ (List.getElem_mem (show x - 1 < R.length by omega)))
      have f5 : ref10_Before k R[x - 1] R[x] = some true := by
        rw [bef0_eq (by omega) (by omega) (by omega)]
        exact congrArg some (List.pairwise_iff_getElem.1 hp (x - 1) x (by omega) hx (by omega))
      have hb2 : 0 ≤ ((x - 1 : Nat) : Int) ∧ ((x - 1 : Nat) : Int) < (R.length : Int) := by omega
      have hd : decide ((x : Int) > 0) = true := by rw [decide_eq_true_eq]; omega
      simp only [hd, hw1, r2, if_pos hb2, f5, if_true, Option.bind_some, Bool.not_true, Bool.false_eq_true, if_false]
      split <;> rfl
    · have hd : decide ((x : Int) > 0) = false := by rw [decide_eq_false_iff_not]; omega
      simp only [hd, Bool.false_eq_true, if_false, Option.bind_some]
      split <;> rfl
theorem all_bad {n : Int} (h : n < 0 ∨ 3 < n) (k : Nat) : census_All k n = some ([], 2) := by
  unfold census_All census_few
  have : (decide (n ≥ 0) && decide (n ≤ 3)) = false := by
    rw [Bool.and_eq_false_iff, decide_eq_false_iff_not, decide_eq_false_iff_not]; omega
  rw [this]; rfl
theorem law10_CensusAll_pure : ∀ (p0 : Int), (ok64 p0) → ∃ k, law10_CensusAll k p0 = some true := by
  intro n _
  refine ⟨2000000, ?_⟩
  have aw : law10_awake 2000000 = some true := awake10_ok (by omega)
  unfold law10_CensusAll
  by_cases h : n < 0 ∨ 3 < n
  · rw [all_bad h, Option.bind_some, if_pos (by simp; omega), aw]; rfl
  · obtain ⟨m, rfl⟩ : ∃ m : Nat, n = m := ⟨n.toNat, by omega⟩
    have hm : m ≤ 3 := by omega
    obtain ⟨R, _, h2, h3, h4⟩ := all_ok (n := m) hm (k := 2000000) (by omega)
    have hl : R.length = (formL m).length := h3.length_eq
    have hmany := formL_many hm
    have h5 := all_l9 hm (fun s hs => h3.mem_iff.1 hs) h4 (by omega) R.length 0 2000000 (by omega) (by omega)
    have h5 : law10_CensusAll.l0 2000000 0 m (R, 0) = _ := h5
    rw [h2, Option.bind_some, if_neg (by simp; omega), all0_eq hm (by omega)]
    simp only [h5, aw, hl, Option.bind_some, bne_self_eq_false, Bool.false_eq_true, if_false]
    rfl
end Gp
set_option linter.unusedVariables false
set_option linter.unusedSimpArgs false
namespace Gp
open Gw Gq
/-! ### CensusMember -/
/-! ### CensusCount -/
/-! ### CensusCanon -/
end Gp
