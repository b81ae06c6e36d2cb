/- The plain law: what the functions compute answers as the statement says. -/
import Derived.Test.YtgdijgbjlioekaaDoorGp
import Derived.KernelRfl
set_option linter.unusedVariables false
set_option linter.unusedSimpArgs false
namespace Gq
open Go Gw Gp
/-! ### numbers and lists -/
theorem w64_id {n : Int} (h0 : -9223372036854775808 ≤ n) (h1 : n ≤ 9223372036854775807) : w64 n = n := by
  show IntKind.i64.wrap n = n
  have e : IntKind.i64.wrap n = if (true && decide (n % 18446744073709551616 ≥ 9223372036854775808)) = true then n % 18446744073709551616 - 18446744073709551616 else n % 18446744073709551616 := rfl
  rw [e]
  simp only [Bool.true_and, decide_eq_true_eq]
  split <;> omega
theorem rdD_nat {α : Type} (xs : List α) (i : Nat) (d : α) : rdD xs (i : Int) d = xs.getD i d := by simp [rdD]
theorem rdD_get {α : Type} {xs : List α} {i : Nat} (h : i < xs.length) (d : α) : rdD xs (i : Int) d = xs[i] := by
  simp [rdD, List.getD, List.getElem?_eq_getElem h]
def firstS {α β : Type} (g : Nat → α → Option β) : Nat → List α → Option β
  | _, [] => none
  | i, a :: r => match g i a with
    | some b => some b
    | none => firstS g (i + 1) r
def fin {β : Type} : Option β → Sum β Unit
  | some b => .inl b
  | none => .inr ()
theorem scan {α β : Type} {F : Nat → Int → Option (Sum β Unit)} {xs : List α} {g : Nat → α → Option β}
    (hF : ∀ k (i : Nat), i ≤ xs.length → F (k + 1) (i : Int) = if h : i < xs.length then (match g i xs[i] with | some b => some (.inl b) | none => F k ((i + 1 : Nat) : Int)) else some (.inr ())) :
    ∀ (n k i : Nat), i + n = xs.length → n < k → F k (i : Int) = some (fin (firstS g i (xs.drop i)))
  | 0, k, i, hi, hk => by
    obtain ⟨k, rfl⟩ : ∃ m, k = m + 1 := ⟨k - 1, by omega⟩
    have hi : i = xs.length := by omega
    subst hi
    rw [hF k _ (Nat.le_refl _), dif_neg (Nat.lt_irrefl _), List.drop_length]; rfl
  | n + 1, k, i, hi, hk => by
    obtain ⟨k, rfl⟩ : ∃ m, k = m + 1 := ⟨k - 1, by omega⟩
    have hlt : i < xs.length := by omega
    rw [hF k i (by omega), dif_pos hlt, List.drop_eq_getElem_cons hlt, firstS]
    cases hg : g i xs[i] with
    | some b => rfl
    | none => exact scan hF n k (i + 1) (by omega) (by omega)
end Gq
set_option linter.unusedVariables false
set_option linter.unusedSimpArgs false
namespace Gq
theorem loop_to {σ τ : Type} {F : Nat → Int → σ → Option τ} {S : Nat → σ} {n K : Nat} {r : τ} (hs : ∀ k i, K ≤ k → i < n → F (k + 1) (i : Int) (S i) = F k ((i + 1 : Nat) : Int) (S (i + 1))) (he : ∀ k, F (k + 1) (n : Int) (S n) = some r) :
    ∀ k, n + K < k → F k 0 (S 0) = some r := by
  have key : ∀ d i k, i + d = n → d + K < k → F k (i : Int) (S i) = some r := by
    intro d
    induction d with
    | zero =>
      intro i k hi hk
      obtain ⟨k, rfl⟩ : ∃ m, k = m + 1 := ⟨k - 1, by omega⟩
      have : i = n := by omega
      subst this; exact he k
    | succ d ih =>
      intro i k hi hk
      obtain ⟨k, rfl⟩ : ∃ m, k = m + 1 := ⟨k - 1, by omega⟩
      rw [hs k i (by omega) (by omega)]
      exact ih (i + 1) k (by omega) (by omega)
  intro k hk
  exact key n 0 k (by omega) hk
theorem flat_succ {α : Type} (f : Nat → List α) (n : Nat) : (List.range (n + 1)).flatMap f = (List.range n).flatMap f ++ f n := by
  rw [List.range_succ, List.flatMap_append]; simp
end Gq
namespace Gp
open Gw Gq
/-! ### the tiles of a machine -/
def hd (Y q s : Nat) : Int := ((Y + q * Y + s : Nat) : Int)
end Gp
set_option linter.unusedVariables false
set_option linter.unusedSimpArgs false
namespace Gp
open Gw Gq
/-! the reference -/
/-! equal sets -/
theorem set_loop (a : List Tile) (hl : a.length ≤ 1000000) (k : Nat) (hk : a.length < k) : ref01_SameSet.l0 k 0 a a = some (.inr ()) := by
  have := scan (F := fun k i => ref01_SameSet.l0 k i a a) (xs := a) (g := fun _ _ => (none : Option Bool)) (fun k i hi => by
    show ref01_SameSet.l0 (k + 1) i a a = _
    rw [ref01_SameSet.l0]
    by_cases h : i < a.length
    · have h2 : 0 ≤ (i : Int) ∧ (i : Int) < (a.length : Int) := by omega
      rw [dif_pos h, if_pos (by simpa using h), if_pos h2, if_pos h2, if_neg (by simp), w64_id (by omega) (by omega)]; rfl
    · rw [dif_neg h, if_neg (by simpa using h)]) a.length k 0 (by simp) hk
  have hn : ∀ (l : List Tile) (i : Nat), firstS (fun _ _ => (none : Option Bool)) i l = none := by
    intro l
    induction l with
    | nil => intro i; rfl
    | cons x r ih => intro i; exact ih (i + 1)
  simpa [hn, fin] using this
theorem sameset_refl (a : List Tile) (hl : a.length ≤ 1000000) (k : Nat) (hk : a.length < k) : ref01_SameSet k a a = some true := by
  unfold ref01_SameSet
  rw [if_neg (by simp), set_loop a hl k hk]; rfl
end Gp
set_option linter.unusedVariables false
set_option linter.unusedSimpArgs false
namespace Gq
theorem flat_get {α : Type} {f : Nat → List α} : ∀ {n q j : Nat} {t : α}, q < n → (f q)[j]? = some t → ((List.range n).flatMap f)[((List.range q).flatMap f).length + j]? = some t
  | 0, q, j, t, h, _ => by omega
  | n + 1, q, j, t, h, hj => by
    rw [flat_succ, List.getElem?_append]
    by_cases hq : q < n
    · have := flat_get (n := n) hq hj
      rw [if_pos (by by_cases hl : ((List.range q).flatMap f).length + j < ((List.range n).flatMap f).length
                     · exact hl
                     · rw [List.getElem?_eq_none (by omega)] at this; cases this)]
      exact this
    · have : q = n := by omega
      subst this
      rw [if_neg (by omega), show ((List.range q).flatMap f).length + j - ((List.range q).flatMap f).length = j by omega]; exact hj
theorem flat_len {α : Type} {f : Nat → List α} {b : Nat} (hf : ∀ i, (f i).length = b) : ∀ n, ((List.range n).flatMap f).length = n * b
  | 0 => by simp
  | n + 1 => by
    rw [flat_succ, List.length_append, Nat.add_mul, Nat.one_mul, flat_len hf n, hf n]
end Gq
namespace Gp
open Gw Gq
/-! ### where the tiles of a machine lie -/
end Gp
set_option linter.unusedVariables false
set_option linter.unusedSimpArgs false
namespace Gp
open Gw Gq
/-! ### the tile that shows a cell of a step -/
theorem Tile.ext' {a b : Tile} (h1 : a.N = b.N) (h2 : a.E = b.E) (h3 : a.S = b.S) (h4 : a.W = b.W) : a = b := by
  cases a; cases b; simp only at h1 h2 h3 h4; subst h1 h2 h3 h4; rfl
end Gp
set_option linter.unusedVariables false
set_option linter.unusedSimpArgs false
namespace Gq
theorem loop_all {σ ρ τ : Type} {F : Nat → Int → σ → Option (Sum ρ τ)} {S : Nat → σ} {b : Nat → Bool} {n K : Nat} {r : ρ} {e : τ} (hs : ∀ k i, K ≤ k → i < n → F (k + 1) (i : Int) (S i) = if b i = true then F k ((i + 1 : Nat) : Int) (S (i + 1)) else some (.inl r)) (he : ∀ k, F (k + 1) (n : Int) (S n) = some (.inr e)) :
    ∀ k, n + K < k → F k 0 (S 0) = some (if (List.range n).all b = true then .inr e else .inl r) := by
  have key : ∀ d i k, i + d = n → d + K < k → F k (i : Int) (S i) = some (if (List.range' i d).all b = true then .inr e else .inl r) := by
    intro d
    induction d with
    | zero =>
      intro i k hi hk
      obtain ⟨k, rfl⟩ : ∃ m, k = m + 1 := ⟨k - 1, by omega⟩
      have : i = n := by omega
      subst this; rw [he]; rfl
    | succ d ih =>
      intro i k hi hk
      obtain ⟨k, rfl⟩ : ∃ m, k = m + 1 := ⟨k - 1, by omega⟩
      rw [hs k i (by omega) (by omega), List.range'_succ, List.all_cons]
      cases hb : b i
      · rfl
      · rw [if_pos rfl, ih (i + 1) k (by omega) (by omega)]; rfl
  intro k hk
  rw [List.range_eq_range']
  exact key n 0 k (by omega) hk
theorem firstS_ge' {α : Type} {p : α → Bool} : ∀ (xs : List α) (i : Nat), (match firstS (fun i a => if p a = true then none else some (i : Int)) i xs with
    | some x => decide (0 ≤ x)
    | none => false) = !xs.all p
  | [], i => rfl
  | a :: r, i => by
    rw [firstS]
    cases h : p a
    · simp [h]
    · simp only [if_true, List.all_cons, h, Bool.true_and]
      exact firstS_ge' r (i + 1)
end Gq
namespace Gp
open Gw Gq
/-! ### sets of tiles and patterns -/
def inCol (c : Int) : Bool := decide (0 ≤ c ∧ c < 1000)
def colB (t : Tile) : Bool := inCol t.N && inCol t.E && inCol t.S && inCol t.W
theorem idx_col (xs : List Int) (hl : xs.length ≤ 1000000) (k : Nat) (hk : xs.length < k) :
    slices_IndexFunc_int_int_with_tile_colour_1.l0 k 0 xs = some (fin (firstS (fun i a => if inCol a = true then none else some (i : Int)) 0 xs)) := by
  have := scan (F := fun k i => slices_IndexFunc_int_int_with_tile_colour_1.l0 k i xs) (xs := xs) (g := fun i a => if inCol a = true then none else some (i : Int)) (fun k i hi => by
    show slices_IndexFunc_int_int_with_tile_colour_1.l0 (k + 1) i xs = _
    rw [slices_IndexFunc_int_int_with_tile_colour_1.l0]
    by_cases h : i < xs.length
    · have h' : (i : Int) < (xs.length : Int) := by omega
      have h2 : 0 ≤ (i : Int) ∧ (i : Int) < (xs.length : Int) := by omega
      rw [dif_pos h, if_pos (by simpa using h'), if_pos h2, rdD_get h, tile_colour_1, w64_id (by omega) (by omega)]
      by_cases hb : 0 ≤ xs[i] ∧ xs[i] < 1000
      · have h3 : ¬ (xs[i] < 0 ∨ 1000 ≤ xs[i]) := by omega
        simp [inCol, hb]
        intro hh; exact absurd hh h3
      · have h3 : (xs[i] < 0 ∨ 1000 ≤ xs[i]) := by omega
        simp [inCol, hb, h3]
    · have h' : ¬ (i : Int) < (xs.length : Int) := by omega
      rw [dif_neg h, if_neg (by simpa using h')]) xs.length k 0 (by simp) hk
  simpa using this
theorem colour_eq (xs : List Int) (hl : xs.length ≤ 1000000) (k : Nat) (hk : xs.length < k) : tile_colour k xs = some (xs.all inCol) := by
  unfold tile_colour slices_ContainsFunc_int_int_with_tile_colour_1 slices_IndexFunc_int_int_with_tile_colour_1
  rw [idx_col xs hl k hk]
  have := firstS_ge' (p := inCol) xs 0
  cases hf : firstS (fun i a => if inCol a = true then none else some (i : Int)) 0 xs <;> rw [hf] at this <;> cases ha : xs.all inCol <;> rw [ha] at this <;> simp [fin, sumb] at this ⊢
  · exact this
  · exact this
def metS (set : List Tile) (i : Nat) : List (Tile × Bool) := (set.take i).map fun t => (t, true)
theorem mget_met (t : Tile) : ∀ l : List Tile, mget t false (l.map fun t => (t, true)) = decide (t ∈ l)
  | [] => rfl
  | a :: r => by
    simp only [List.map_cons, mget]
    by_cases h : t = a
    · simp [h]
    · rw [if_neg h, mget_met t r]; simp [h]
theorem mput_met (t : Tile) : ∀ l : List Tile, t ∉ l → mput t true (l.map fun t => (t, true)) = (l.map fun t => (t, true)) ++ [(t, true)]
  | [], _ => rfl
  | a :: r, h => by
    simp only [List.mem_cons, not_or] at h
    simp only [List.map_cons, mput, if_neg h.1, mput_met t r h.2, List.cons_append]
def newB (set : List Tile) (i : Nat) : Bool := !decide (set.getD i z_Tile ∈ set.take i) && colB (set.getD i z_Tile)
def validT (set : List Tile) : Bool := decide (set.length ≤ 1000) && (List.range set.length).all (newB set)
theorem tile_valid (set : List Tile) {k : Nat} (hk : 1006 ≤ k) (hl : set.length ≤ 9223372036854775807) : tile_Valid k set = some (validT set) := by
  unfold tile_Valid validT
  by_cases hb : set.length ≤ 1000
  · rw [if_neg (by simp; omega)]
    have := loop_all (F := fun k i (m : List (Tile × Bool)) => tile_Valid.l0 k m i set) (S := metS set) (b := newB set) (n := set.length) (K := 5) (r := false) (e := ()) (fun k i hk hi => by
      show tile_Valid.l0 (k + 1) (metS set i) i set = if newB set i = true then tile_Valid.l0 k (metS set (i + 1)) ((i + 1 : Nat) : Int) set else _
      rw [tile_Valid.l0, if_pos (by simpa using hi), if_pos (by omega), rdD_nat, metS, mget_met]
      have ht : set.getD i z_Tile = set[i] := by simp [List.getElem?_eq_getElem hi]
      unfold newB
      by_cases hm : set.getD i z_Tile ∈ set.take i
      · rw [if_pos (by simpa using hm), show decide (set.getD i z_Tile ∈ set.take i) = true from decide_eq_true hm]; rfl
      · rw [if_neg (by simpa using hm), colour_eq _ (by simp) k (by simp; omega), Option.bind_some, Option.bind_some]
        have hc : ([(set.getD i z_Tile).N, (set.getD i z_Tile).E, (set.getD i z_Tile).S, (set.getD i z_Tile).W].all inCol) = colB (set.getD i z_Tile) := by simp [colB, Bool.and_assoc]
        rw [hc]
        cases hcb : colB (set.getD i z_Tile)
        · simp
        · rw [mput_met _ _ hm, w64_id (by omega) (by omega)]
          simp only [hm, Bool.not_true, Bool.false_eq_true, if_false, decide_false, Bool.not_false, Bool.and_self, if_true]
          unfold metS
          rw [List.take_add_one, List.map_append, List.getElem?_eq_getElem hi, ht]; rfl) (fun k => by
      show tile_Valid.l0 (k + 1) (metS set set.length) set.length set = _
      rw [tile_Valid.l0, if_neg (by simp)]) k (by omega)
    have h0 : tile_Valid.l0 k [] 0 set = some (if (List.range set.length).all (newB set) = true then .inr () else .inl false) := this
    rw [h0]
    cases (List.range set.length).all (newB set) <;> simp [sumb, hb]
  · rw [if_pos (by simp; omega)]; simp [hb]
def formB (p : Pattern) : Bool := decide (1 ≤ p.Width ∧ 1 ≤ p.Height ∧ p.Width ≤ 40000 ∧ p.Height ≤ 40000 ∧ p.Width * p.Height ≤ 40000 ∧ (p.Cells.length : Int) = p.Width * p.Height)
def inSet (n : Nat) (c : Int) : Bool := decide (0 ≤ c ∧ c < (n : Int))
def ofB (set : List Tile) (p : Pattern) : Bool := validT set && formB p && p.Cells.all (inSet set.length)
structure PForm (set : List Tile) (p : Pattern) (W H : Nat) : Prop where
  w : p.Width = W
  h : p.Height = H
  dW : 1 ≤ W ∧ W ≤ 40000
  dH : 1 ≤ H ∧ H ≤ 40000
  wh : H * W ≤ 40000
  len : p.Cells.length = H * W
  cel : ∀ j, j < H * W → 0 ≤ p.Cells.getD j 0 ∧ p.Cells.getD j 0 < (set.length : Int)
theorem place_lt {W H x y : Nat} (hx : x < W) (hy : y < H) : y * W + x < H * W := by
  have := Nat.mul_le_mul_right W (show y + 1 ≤ H by omega)
  rw [Nat.succ_mul] at this; omega
end Gp
set_option linter.unusedVariables false
set_option linter.unusedSimpArgs false
namespace Gp
open Gw Gq
/-! ### the pictures are patterns of the tiles -/
theorem PForm.of {set : List Tile} {p : Pattern} {W H : Nat} (f : PForm set p W H) (hv : validT set = true) : ofB set p = true := by
  unfold ofB formB
  have h1 := f.dW; have h2 := f.dH; have h3 := f.wh
  have e : p.Width * p.Height = ((H * W : Nat) : Int) := by rw [f.w, f.h, Int.natCast_mul, Int.mul_comm]
  rw [hv, e, f.w, f.h, f.len]
  simp only [Bool.true_and, Bool.and_eq_true, decide_eq_true_eq, List.all_eq_true]
  refine ⟨⟨by omega, by omega, by omega, by omega, by omega, trivial⟩, fun a ha => ?_⟩
  obtain ⟨j, hj, he⟩ := List.mem_iff_getElem.1 ha
  have := f.cel j (by rw [← f.len]; exact hj)
  rw [show p.Cells.getD j 0 = p.Cells[j] from by simp [List.getElem?_eq_getElem hj], he] at this
  unfold inSet; exact decide_eq_true this
end Gp
set_option linter.unusedVariables false
set_option linter.unusedSimpArgs false
namespace Gq
end Gq
namespace Gp
open Gw Gq
/-! ### the patterns of the statements' own reference -/
end Gp
set_option linter.unusedVariables false
set_option linter.unusedSimpArgs false
namespace Gp
open Gw Gq
end Gp
set_option linter.unusedVariables false
set_option linter.unusedSimpArgs false
namespace Gp
open Gw Gq
/-! ### a torus, repeated -/
end Gp
set_option linter.unusedVariables false
set_option linter.unusedSimpArgs false
namespace Gp
open Gw Gq
/-! ### the first layer's reference -/
theorem awake01_ok (k : Nat) : law01_awake (k + 100) = some true := by kernel_rfl
theorem colour01 (c : Int) : ref01_colour c = some (inCol c) := by
  unfold ref01_colour inCol
  by_cases h : 0 ≤ c ∧ c < 1000
  · simp [h]
  · rw [decide_eq_false h]
    congr 1
    cases h1 : decide (c ≥ 0)
    · rfl
    · have : ¬ c < 1000 := fun h2 => h ⟨by simpa using h1, h2⟩
      simp [this]
theorem index01 {set : List Tile} (hl : set.length ≤ 1000000) (t : Tile) {k : Nat} (hk : set.length < k) : ∃ r : Int, ref01_Index k set t = some r ∧ decide (r ≥ 0) = decide (t ∈ set) := by
  have := scan (F := fun k i => ref01_Index.l0 k i set t) (xs := set) (g := fun i a => if a = t then some (i : Int) else none) (fun k i hi => by
    show ref01_Index.l0 (k + 1) i set t = _
    rw [ref01_Index.l0]
    by_cases h : i < set.length
    · have h2 : 0 ≤ (i : Int) ∧ (i : Int) < (set.length : Int) := by omega
      rw [dif_pos h, if_pos (by simpa using h), if_pos h2, rdD_get h, w64_id (by omega) (by omega)]
      by_cases hb : set[i] = t
      · subst hb; simp
      · have : ((set[i].N == t.N) && ((set[i].E == t.E) && ((set[i].S == t.S) && (set[i].W == t.W)))) = false := by
          cases hc : ((set[i].N == t.N) && ((set[i].E == t.E) && ((set[i].S == t.S) && (set[i].W == t.W))))
          · rfl
          · simp only [Bool.and_eq_true, beq_iff_eq] at hc
            exact absurd (Tile.ext' hc.1 hc.2.1 hc.2.2.1 hc.2.2.2) hb
        rw [this, if_neg hb]; rfl
    · rw [dif_neg h, if_neg (by simpa using h)]) set.length k 0 (by simp) hk
  have h0 : ref01_Index.l0 k 0 set t = some (fin (firstS (fun i a => if a = t then some (i : Int) else none) 0 (set.drop 0))) := this
  rw [List.drop_zero] at h0
  have key : ∀ (l : List Tile) (i : Nat), match firstS (fun i a => if a = t then some (i : Int) else none) i l with
      | some x => decide (x ≥ 0) = decide (t ∈ l)
      | none => decide (t ∈ l) = false := by
    intro l
    induction l with
    | nil => intro i; simp [firstS]
    | cons a r ih =>
      intro i
      rw [firstS]
      by_cases ha : a = t
      · subst ha; simp
      · have hne : ¬ t = a := fun e => ha e.symm
        rw [if_neg ha]
        have := ih (i + 1)
        cases hf : firstS (fun i a => if a = t then some (i : Int) else none) (i + 1) r with
        | none => rw [hf] at this; simp only [List.mem_cons, hne, false_or]; exact this
        | some x => rw [hf] at this; simp only [List.mem_cons, hne, false_or]; exact this
  unfold ref01_Index
  rw [h0]
  have hk2 := key set 0
  cases hf : firstS (fun i a => if a = t then some (i : Int) else none) 0 set with
  | none => rw [hf] at hk2; exact ⟨-1, rfl, by rw [hk2]; rfl⟩
  | some x => rw [hf] at hk2; exact ⟨x, rfl, hk2⟩
theorem valid01 (set : List Tile) {k : Nat} (hk : 2002 < k) (hl : set.length ≤ 9223372036854775807) : ref01_Valid k set = some (validT set) := by
  unfold ref01_Valid validT
  by_cases hb : set.length ≤ 1000
  · rw [if_neg (by simp; omega)]
    have := loop_all (F := fun k i (_ : Unit) => ref01_Valid.l0 k i set) (S := fun _ => ()) (b := newB set) (n := set.length) (K := 1001) (r := false) (e := ()) (fun k i hk hi => by
      show ref01_Valid.l0 (k + 1) i set = if newB set i = true then ref01_Valid.l0 k ((i + 1 : Nat) : Int) set else _
      have hcut : cut set (0 : Int) (i : Int) = set.take i := by unfold cut; simp
      obtain ⟨r, hr, hd⟩ := index01 (set := set.take i) (by rw [List.length_take]; omega) (set.getD i z_Tile) (k := k) (by rw [List.length_take]; omega)
      rw [ref01_Valid.l0, if_pos (by simpa using hi), if_pos (by omega)]
      simp only [rdD_nat, colour01, Option.bind_some, hcut]
      rw [if_pos (⟨by omega, by omega, by omega⟩ : 0 ≤ (0 : Int) ∧ (0 : Int) ≤ (i : Int) ∧ (i : Int) ≤ (set.length : Int)), hr, w64_id (by omega) (by omega)]
      simp only [Option.bind_some, hd]
      unfold newB colB
      cases inCol (set.getD i z_Tile).N
      · simp
      · cases inCol (set.getD i z_Tile).E
        · simp
        · cases inCol (set.getD i z_Tile).S
          · simp
          · cases inCol (set.getD i z_Tile).W
            · simp
            · cases decide (set.getD i z_Tile ∈ set.take i) <;> simp) (fun k => by
      show ref01_Valid.l0 (k + 1) set.length set = _
      rw [ref01_Valid.l0, if_neg (by simp)]) k (by omega)
    have h0 : ref01_Valid.l0 k 0 set = some (if (List.range set.length).all (newB set) = true then .inr () else .inl false) := this
    rw [h0]
    cases (List.range set.length).all (newB set) <;> simp [sumb, hb]
  · rw [if_pos (by simp; omega)]; simp [hb]
end Gp
set_option linter.unusedVariables false
set_option linter.unusedSimpArgs false
namespace Gp
open Gw Gq
/-! ### grids: lists of rows -/
def grid (w h : Nat) (g : Nat → Nat → Int) : List Int := (List.range h).flatMap fun y => (List.range w).map (g y)
theorem grid_len (w h : Nat) (g : Nat → Nat → Int) : (grid w h g).length = h * w := flat_len (f := fun y => (List.range w).map (g y)) (b := w) (fun y => by simp) h
theorem grid_get (w h : Nat) (g : Nat → Nat → Int) {x y : Nat} (hx : x < w) (hy : y < h) : (grid w h g).getD (y * w + x) 0 = g y x := by
  have := flat_get (f := fun y => (List.range w).map (g y)) (n := h) (q := y) (j := x) (t := g y x) hy (by simp [hx])
  have e : ((List.range y).flatMap fun y => (List.range w).map (g y)).length = y * w := grid_len w y g
  rw [e] at this
  unfold grid
  rw [List.getD_eq_getElem?_getD, this]; rfl
/-! ### stores into a list -/
def sets (l : List Int) (q : List (Nat × Int)) : List Int := q.foldl (fun l p => l.set p.1 p.2) l
/-! ### patterns that have the form of one -/
structure GForm (p : Pattern) (W H : Nat) : Prop where
  w : p.Width = W
  h : p.Height = H
  dW : 1 ≤ W ∧ W ≤ 40000
  dH : 1 ≤ H ∧ H ≤ 40000
  wh : H * W ≤ 40000
  len : p.Cells.length = H * W
theorem GForm.form {p : Pattern} {W H : Nat} (f : GForm p W H) : formB p = true := by
  have h1 := f.dW; have h2 := f.dH; have h3 := f.wh
  have e : p.Width * p.Height = ((H * W : Nat) : Int) := by rw [f.w, f.h, Int.natCast_mul, Int.mul_comm]
  unfold formB; rw [e, f.w, f.h, f.len]; exact decide_eq_true ⟨by omega, by omega, by omega, by omega, by omega, rfl⟩
theorem PForm.g {set : List Tile} {p : Pattern} {W H : Nat} (f : PForm set p W H) : GForm p W H := ⟨f.w, f.h, f.dW, f.dH, f.wh, f.len⟩
def cellG (p : Pattern) (W y x : Nat) : Int := p.Cells.getD (y * W + x) 0
theorem GForm.at {p : Pattern} {W H : Nat} (f : GForm p W H) {x y : Nat} (hx : x < W) (hy : y < H) : w64 (w64 ((y : Int) * (W : Int)) + (x : Int)) = ((y * W + x : Nat) : Int) ∧ (0 ≤ ((y * W + x : Nat) : Int) ∧ ((y * W + x : Nat) : Int) < (p.Cells.length : Int)) := by
  have hwh := f.wh
  have hp := place_lt hx hy
  refine ⟨?_, by omega, by rw [f.len]; omega⟩
  rw [← Int.natCast_mul, w64_id (n := ((y * W : Nat) : Int)) (by omega) (by omega), w64_id (by omega) (by omega)]; rfl
theorem succ64 {x : Nat} (h : x ≤ 1000000) : w64 ((x : Int) + 1) = ((x + 1 : Nat) : Int) := by rw [w64_id (by omega) (by omega)]; rfl
/-! ### the changed patterns -/
end Gp
set_option linter.unusedVariables false
set_option linter.unusedSimpArgs false
namespace Gp
open Gw Gq
/-! ### cuts -/
/-! ### patterns, repeated -/
/-! ### what is equal -/
end Gp
set_option linter.unusedVariables false
set_option linter.unusedSimpArgs false
namespace Gp
open Gw Gq
/-! ### changed sets -/
structure Chg (f : Tile → Tile) : Prop where
  inj : ∀ a b, f a = f b → a = b
  col : ∀ t, colB (f t) = colB t
theorem getD_map (f : Tile → Tile) {s : List Tile} {i : Nat} (h : i < s.length) : (s.map f).getD i z_Tile = f (s.getD i z_Tile) := by simp [List.getElem?_eq_getElem h]
theorem Chg.valid {f : Tile → Tile} (c : Chg f) {s : List Tile} (hv : validT s = true) : validT (s.map f) = true := by
  unfold validT at hv ⊢
  simp only [Bool.and_eq_true, decide_eq_true_eq, List.all_eq_true, List.mem_range, List.length_map] at hv ⊢
  refine ⟨hv.1, fun i hi => ?_⟩
  have := hv.2 i hi
  unfold newB at this ⊢
  rw [getD_map f hi, ← List.map_take, c.col]
  simp only [Bool.and_eq_true, Bool.not_eq_true', decide_eq_false_iff_not] at this ⊢
  refine ⟨fun hm => this.1 ?_, this.2⟩
  obtain ⟨a, ha, he⟩ := List.mem_map.1 hm
  rw [← c.inj _ _ he]; exact ha
/-! ### how the tiles of a grid meet -/
def JP (W H : Nat) (round : Bool) (T : Nat → Nat → Tile) : Prop :=
  (∀ y x, y < H → x < W → (x + 1 < W ∨ round = true) → (T y x).E = (T y ((x + 1) % W)).W) ∧ (∀ y x, y < H → x < W → (y + 1 < H ∨ round = true) → (T y x).N = (T ((y + 1) % H) x).S)
theorem JP.congr {W H : Nat} {round : Bool} {T T' : Nat → Nat → Tile} (he : ∀ y x, y < H → x < W → T y x = T' y x) (h : JP W H round T) : JP W H round T' := by
  refine ⟨fun y x hy hx hr => ?_, fun y x hy hx hr => ?_⟩
  · rw [← he y x hy hx, ← he y _ hy (Nat.mod_lt _ (by omega))]; exact h.1 y x hy hx hr
  · rw [← he y x hy hx, ← he _ x (Nat.mod_lt _ (by omega)) hx]; exact h.2 y x hy hx hr
def GP (W H : Nat) (c : Nat → Nat → Int) : Pattern := ⟨W, H, grid W H c⟩
def TT (s : List Tile) (c : Nat → Nat → Int) (y x : Nat) : Tile := s.getD (c y x).toNat z_Tile
structure GOK (s : List Tile) (W H : Nat) (c : Nat → Nat → Int) (whole : Bool) : Prop where
  valid : validT s = true
  dW : 1 ≤ W ∧ W ≤ 40000
  dH : 1 ≤ H ∧ H ≤ 40000
  wh : H * W ≤ 40000
  cel : ∀ y x, y < H → x < W → 0 ≤ c y x ∧ c y x < (s.length : Int)
  fits : JP W H false (TT s c)
  round : whole = true ↔ JP W H true (TT s c)
theorem valid_len {s : List Tile} (hv : validT s = true) : s.length ≤ 1000 := by unfold validT at hv; simp only [Bool.and_eq_true, decide_eq_true_eq] at hv; exact hv.1
theorem GOK.congr {s : List Tile} {W H : Nat} {c c' : Nat → Nat → Int} {whole : Bool} (g : GOK s W H c whole) (he : ∀ y x, y < H → x < W → c y x = c' y x) : GOK s W H c' whole := by
  have ht : ∀ y x, y < H → x < W → TT s c y x = TT s c' y x := fun y x hy hx => by unfold TT; rw [he y x hy hx]
  exact ⟨g.valid, g.dW, g.dH, g.wh, fun y x hy hx => by rw [← he y x hy hx]; exact g.cel y x hy hx, g.fits.congr ht, g.round.trans ⟨fun h => h.congr ht, fun h => h.congr (fun y x hy hx => (ht y x hy hx).symm)⟩⟩
/-! mirrored -/
theorem GP.g {W H : Nat} {c : Nat → Nat → Int} (dW : 1 ≤ W ∧ W ≤ 40000) (dH : 1 ≤ H ∧ H ≤ 40000) (wh : H * W ≤ 40000) : GForm (GP W H c) W H := ⟨rfl, rfl, dW, dH, wh, grid_len W H c⟩
theorem GP.cell {W H : Nat} (c : Nat → Nat → Int) {y x : Nat} (hy : y < H) (hx : x < W) : cellG (GP W H c) W y x = c y x := grid_get W H c hx hy
end Gp
set_option linter.unusedVariables false
set_option linter.unusedSimpArgs false
namespace Gq
open Go Gw
/-! ### bytes and numbers -/
def bts (l : List UInt8) : ByteArray := ⟨l.toArray⟩
theorem bts_data (l : List UInt8) : (bts l).data.toList = l := rfl
theorem bts_of (s : ByteArray) : bts s.data.toList = s := rfl
theorem bts_size (l : List UInt8) : (bts l).size = l.length := by simp [bts, ByteArray.size]
theorem bts_app (a b : List UInt8) : bts a ++ bts b = bts (a ++ b) := by
  apply ByteArray.ext
  simp [bts, ByteArray.data_append]
theorem strEq_bts (a b : List UInt8) : strEq (bts a) (bts b) = decide (a = b) := by
  unfold strEq; rw [bts_data, bts_data, Bool.eq_iff_iff, decide_eq_true_eq, beq_iff_eq]
theorem wrap8 {x : Int} (h0 : 0 ≤ x) (h1 : x < 256) : IntKind.wrap .u8 x = x := by
  have e : IntKind.wrap .u8 x = if (false && decide (x % 256 ≥ 128)) = true then x % 256 - 256 else x % 256 := rfl
  rw [e]
  simp only [Bool.false_and]
  rw [if_neg (by decide)]
  omega
def dig3 (n : Nat) : List UInt8 := if n < 10 then [UInt8.ofNat (48 + n)] else if n < 100 then [UInt8.ofNat (48 + n / 10), UInt8.ofNat (48 + n % 10)] else [UInt8.ofNat (48 + n / 10 / 10), UInt8.ofNat (48 + n / 10 % 10), UInt8.ofNat (48 + n % 10)]
theorem dec3 {n : Nat} (h : n < 1000) : Lib.decDigits n = dig3 n := by
  unfold dig3
  rw [Lib.decDigits]
  by_cases h1 : n < 10
  · rw [dif_pos h1, if_pos h1]
  · rw [dif_neg h1, if_neg h1, Lib.decDigits]
    by_cases h2 : n < 100
    · rw [dif_pos (by omega), if_pos h2]; rfl
    · rw [dif_neg (by omega), if_neg h2, Lib.decDigits, dif_pos (by omega)]; rfl
theorem itoa3 {v : Int} (h0 : 0 ≤ v) (h1 : v < 1000) : Lib.itoa v = dig3 v.toNat := by
  unfold Lib.itoa
  rw [if_neg (by omega), dec3 (by omega)]
theorem itoaN3 {v : Int} (h0 : 0 ≤ v) (h1 : v < 1000) : itoaN v = some (bts (dig3 v.toNat)) := by
  unfold itoaN
  rw [if_pos (by omega), itoa3 h0 h1]; rfl
theorem dig3_len (n : Nat) : 1 ≤ (dig3 n).length ∧ (dig3 n).length ≤ 3 := by
  unfold dig3
  split
  · simp
  · split <;> simp
theorem ofNat_toNat {x : Nat} (h : x < 256) : (UInt8.ofNat x).toNat = x := by rw [UInt8.toNat_ofNat']; omega
def isD (b : UInt8) : Prop := 48 ≤ b.toNat ∧ b.toNat ≤ 57
theorem dig3_digit {n : Nat} (h : n < 1000) : ∀ b ∈ dig3 n, isD b := by
  have key : ∀ x, x < 10 → isD (UInt8.ofNat (48 + x)) := fun x hx => by unfold isD; rw [ofNat_toNat (by omega)]; omega
  unfold dig3
  split
  · intro b hb; rw [List.mem_singleton] at hb; subst hb; exact key _ (by omega)
  · split
    · intro b hb
      simp only [List.mem_cons, List.mem_nil_iff, or_false] at hb
      rcases hb with rfl | rfl
      · exact key _ (by omega)
      · exact key _ (by omega)
    · intro b hb
      simp only [List.mem_cons, List.mem_nil_iff, or_false] at hb
      rcases hb with rfl | rfl | rfl
      · exact key _ (by omega)
      · exact key _ (by omega)
      · exact key _ (by omega)
end Gq
namespace Gp
open Go Gw Gq
def tileB (t : Tile) : List UInt8 := dig3 t.N.toNat ++ 46 :: (dig3 t.E.toNat ++ 46 :: (dig3 t.S.toNat ++ 46 :: dig3 t.W.toNat))
def textB : List Tile → List UInt8
  | [] => []
  | [t] => tileB t
  | t :: u :: r => tileB t ++ 32 :: textB (u :: r)
theorem tileB_len (t : Tile) : 7 ≤ (tileB t).length ∧ (tileB t).length ≤ 15 := by
  have h1 := dig3_len t.N.toNat
  have h2 := dig3_len t.E.toNat
  have h3 := dig3_len t.S.toNat
  have h4 := dig3_len t.W.toNat
  unfold tileB
  simp only [List.length_append, List.length_cons]
  omega
theorem textB_len : ∀ s : List Tile, (textB s).length ≤ 16 * s.length - 1
  | [] => Nat.le_refl _
  | [t] => by have := tileB_len t; show (tileB t).length ≤ 16 * 1 - 1; omega
  | t :: u :: r => by
    have := tileB_len t
    have ih := textB_len (u :: r)
    show (tileB t ++ 32 :: textB (u :: r)).length ≤ _
    simp only [List.length_append, List.length_cons] at ih ⊢
    omega
theorem textB_nil {s : List Tile} (h : textB s = []) : s = [] := by
  match s, h with
  | [], _ => rfl
  | [t], h => have := tileB_len t; rw [show textB [t] = tileB t from rfl] at h; rw [h] at this; simp at this
  | t :: u :: r, h => have := congrArg List.length h; rw [show textB (t :: u :: r) = tileB t ++ 32 :: textB (u :: r) from rfl] at this; simp at this
theorem join_cons2 (x y : List UInt8) (r : List (List UInt8)) (sep : List UInt8) : Lib.join (x :: y :: r) sep = x ++ (sep ++ Lib.join (y :: r) sep) := by
  unfold Lib.join
  simp [List.intercalate, List.intersperse]
theorem join_text : ∀ s : List Tile, Lib.join (s.map tileB) [32] = textB s
  | [] => rfl
  | [t] => Lib.join_one _ _
  | t :: u :: r => by
    rw [List.map_cons, List.map_cons, join_cons2, ← List.map_cons, join_text (u :: r)]; rfl
theorem join_tile (a b c d : List UInt8) : Lib.join [a, b, c, d] [46] = a ++ 46 :: (b ++ 46 :: (c ++ 46 :: d)) := by
  rw [join_cons2, join_cons2, join_cons2, Lib.join_one]; rfl
theorem joinP_bts {xs : List ByteArray} {sep : List UInt8} (h : (Lib.join (xs.map (·.data.toList)) sep).length ≤ 140737488355328) (hx : xs.length ≤ 140737488355328) : joinP xs (bts sep) = some (bts (Lib.join (xs.map (·.data.toList)) sep)) := by
  unfold joinP
  rw [bts_data, if_pos ⟨h, hx⟩]; rfl
def okC (t : Tile) : Prop := (0 ≤ t.N ∧ t.N < 1000) ∧ (0 ≤ t.E ∧ t.E < 1000) ∧ (0 ≤ t.S ∧ t.S < 1000) ∧ (0 ≤ t.W ∧ t.W < 1000)
theorem valid_okC {s : List Tile} (hv : validT s = true) : ∀ t ∈ s, okC t := by
  intro t ht
  unfold validT at hv
  simp only [Bool.and_eq_true, decide_eq_true_eq, List.all_eq_true, List.mem_range] at hv
  obtain ⟨i, hi, rfl⟩ := List.getElem_of_mem ht
  have := hv.2 i hi
  unfold newB colB inCol at this
  simp only [Bool.and_eq_true, decide_eq_true_eq, List.getD_eq_getElem?_getD, List.getElem?_eq_getElem hi, Option.getD_some] at this
  exact ⟨this.2.1.1.1, this.2.1.1.2, this.2.1.2, this.2.2⟩
theorem write_l1 (s : List Tile) {i : Nat} (hi : i < s.length) (hc : okC s[i]) (k : Nat) : tile_write.l1 (k + 5) [] 0 s i = some [bts (dig3 s[i].N.toNat), bts (dig3 s[i].E.toNat), bts (dig3 s[i].S.toNat), bts (dig3 s[i].W.toNat)] := by
  obtain ⟨hN, hE, hS, hW⟩ := hc
  have h1 : w64 (0 + 1) = 1 := by rw [w64_id (by omega) (by omega)]; rfl
  have h2 : w64 (1 + 1) = 2 := by rw [w64_id (by omega) (by omega)]; rfl
  have h3 : w64 (2 + 1) = 3 := by rw [w64_id (by omega) (by omega)]; rfl
  have h4 : w64 (3 + 1) = 4 := by rw [w64_id (by omega) (by omega)]; rfl
  rw [tile_write.l1, if_pos (by decide), if_pos (by decide), rdD_get hi, itoaN3 hN.1 hN.2, Option.bind_some, if_pos (by simp), h1]
  rw [tile_write.l1, if_pos (by decide), if_neg (by decide), if_pos (by decide), rdD_get hi, itoaN3 hE.1 hE.2, Option.bind_some, if_pos (by simp), h2]
  rw [tile_write.l1, if_pos (by decide), if_neg (by decide), if_neg (by decide), if_pos (by decide), rdD_get hi, itoaN3 hS.1 hS.2, Option.bind_some, if_pos (by simp), h3]
  rw [tile_write.l1, if_pos (by decide), if_neg (by decide), if_neg (by decide), if_neg (by decide), if_pos (by decide), rdD_get hi, itoaN3 hW.1 hW.2, Option.bind_some, if_pos (by simp), h4]
  rw [tile_write.l1, if_neg (by decide)]; rfl
theorem write_eq {s : List Tile} (hl : s.length ≤ 1000) (hc : ∀ t ∈ s, okC t) {k : Nat} (hk : 2000 < k) : tile_write k s = some (bts (textB s)) := by
  have := loop_to (F := fun k i l => tile_write.l0 k l i s) (S := fun i => (s.map fun t => bts (tileB t)).take i) (n := s.length) (K := 5) (r := s.map fun t => bts (tileB t)) (fun k i hk hi => by
    show tile_write.l0 (k + 1) ((s.map fun t => bts (tileB t)).take i) i s = tile_write.l0 k ((s.map fun t => bts (tileB t)).take (i + 1)) ((i + 1 : Nat) : Int) s
    obtain ⟨j, rfl⟩ : ∃ j, k = j + 5 := ⟨k - 5, by omega⟩
    have ht := tileB_len s[i]
    rw [tile_write.l0, if_pos (by simpa using hi), if_pos (by omega), write_l1 s hi (hc _ (List.getElem_mem hi)), Option.bind_some, show (⟨#[46]⟩ : ByteArray) = bts [46] from rfl, joinP_bts (by
      simp only [List.map_cons, List.map_nil, bts_data, join_tile]
      show (tileB s[i]).length ≤ _
      omega) (by simp), Option.bind_some, if_pos (by simp; omega), succ64 (by omega)]
    congr 1
    simp only [List.map_cons, List.map_nil, bts_data, join_tile]
    rw [List.take_add_one, List.getElem?_eq_getElem (by simpa using hi)]
    simp only [List.getElem_map, Option.toList_some]; rfl) (fun k => by
    show tile_write.l0 (k + 1) ((s.map fun t => bts (tileB t)).take s.length) s.length s = _
    rw [tile_write.l0, if_neg (by simp), List.take_of_length_le (by simp)]) k (by omega)
  have this : tile_write.l0 k [] 0 s = _ := this
  have hd : (s.map fun t => bts (tileB t)).map (fun b : ByteArray => b.data.toList) = s.map tileB := by
    rw [List.map_map]; rfl
  have hlen := textB_len s
  unfold tile_write
  rw [this, Option.bind_some, show (⟨#[32]⟩ : ByteArray) = bts [32] from rfl, joinP_bts (by rw [hd, join_text]; omega) (by simp; omega), hd, join_text]; rfl
/-! ### the reference's text -/
theorem digits_last {v : Nat} : strOfNums [IntKind.wrap .u8 (w64 (48 + Int.tmod (v : Int) 10))] = bts [UInt8.ofNat (48 + v % 10)] := by
  have h1 : Int.tmod (v : Int) 10 = ((v % 10 : Nat) : Int) := rfl
  have : v % 10 < 10 := Nat.mod_lt _ (by omega)
  rw [h1, w64_id (by omega) (by omega), wrap8 (by omega) (by omega)]
  show bts [UInt8.ofNat (48 + ((v % 10 : Nat) : Int)).toNat] = _
  congr 2
theorem digits_eq {v : Nat} (h : v < 1000) (k : Nat) : ref01_digits (k + 3) (v : Int) = some (bts (dig3 v)) := by
  have hd : ∀ x : Nat, x < 1000 → w64 (Int.tdiv (x : Int) 10) = ((x / 10 : Nat) : Int) := fun x hx => by
    rw [show Int.tdiv (x : Int) 10 = ((x / 10 : Nat) : Int) from rfl, w64_id (by omega) (by omega)]
  unfold dig3
  rw [ref01_digits, digits_last]
  by_cases h1 : v < 10
  · rw [if_pos (by rw [decide_eq_true_eq]; omega), if_pos h1, Nat.mod_eq_of_lt h1]
  · rw [if_neg (by rw [decide_eq_true_eq]; omega), if_neg h1, hd v h, ref01_digits, digits_last]
    by_cases h2 : v < 100
    · rw [if_pos (by rw [decide_eq_true_eq]; omega), if_pos h2, Option.bind_some, if_pos (by rw [bts_size, bts_size]; simp), bts_app, Nat.mod_eq_of_lt (show v / 10 < 10 by omega)]; rfl
    · rw [if_neg (by rw [decide_eq_true_eq]; omega), if_neg h2, hd (v / 10) (by omega), ref01_digits, digits_last, if_pos (by rw [decide_eq_true_eq]; omega), Option.bind_some, if_pos (by rw [bts_size, bts_size]; simp), bts_app, Option.bind_some, if_pos (by rw [bts_size, bts_size]; simp), bts_app, Nat.mod_eq_of_lt (show v / 10 / 10 < 10 by omega)]; rfl
theorem digits_int {v : Int} (h : 0 ≤ v ∧ v < 1000) {k : Nat} (hk : 3 ≤ k) : ref01_digits k v = some (bts (dig3 v.toNat)) := by
  obtain ⟨j, rfl⟩ : ∃ j, k = j + 3 := ⟨k - 3, by omega⟩
  obtain ⟨n, rfl⟩ : ∃ n : Nat, v = n := ⟨v.toNat, by omega⟩
  exact digits_eq (by omega) j
def nums (l : List UInt8) : List Int := l.map fun b => ((b.toNat : Nat) : Int)
theorem nums_app (a b : List UInt8) : nums (a ++ b) = nums a ++ nums b := by unfold nums; rw [List.map_append]
theorem nums_len (a : List UInt8) : (nums a).length = a.length := by unfold nums; rw [List.length_map]
theorem u8s_bts (l : List UInt8) : u8s (bts l) = nums l := rfl
theorem nums_str (l : List UInt8) : strOfNums (nums l) = bts l := by
  unfold strOfNums nums bts
  rw [List.map_map]
  congr 2
  have : ((fun n : Int => UInt8.ofNat n.toNat) ∘ fun b : UInt8 => ((b.toNat : Nat) : Int)) = id := by
    funext b; simp
  rw [this, List.map_id]
theorem textB_snoc (t : Tile) : ∀ s : List Tile, textB (s ++ [t]) = if s = [] then tileB t else textB s ++ 32 :: tileB t
  | [] => rfl
  | [u] => rfl
  | u :: v :: r => by
    have ih := textB_snoc t (v :: r)
    rw [if_neg (by simp)] at ih ⊢
    show tileB u ++ 32 :: textB (v :: r ++ [t]) = (tileB u ++ 32 :: textB (v :: r)) ++ 32 :: tileB t
    rw [ih]; simp
theorem text01_eq {s : List Tile} (hl : s.length ≤ 1000) (hc : ∀ t ∈ s, okC t) {k : Nat} (hk : 2000 < k) : ref01_Text k s = some (bts (textB s)) := by
  have := loop_to (F := fun k i l => ref01_Text.l0 k l i s) (S := fun i => nums (textB (s.take i))) (n := s.length) (K := 5) (r := nums (textB s)) (fun k i hk hi => by
    show ref01_Text.l0 (k + 1) (nums (textB (s.take i))) i s = ref01_Text.l0 k (nums (textB (s.take (i + 1)))) ((i + 1 : Nat) : Int) s
    obtain ⟨hN, hE, hS, hW⟩ := hc _ (List.getElem_mem hi)
    have hlen := textB_len (s.take i)
    have hli : (s.take i).length = i := by rw [List.length_take]; omega
    have htl := tileB_len s[i]
    rw [ref01_Text.l0, if_pos (by simpa using hi)]
    have hfirst : (if decide ((i : Int) > 0) = true then (if (nums (textB (s.take i))).length + [32].length ≤ 100000000000 then some (nums (textB (s.take i)) ++ [32]) else none) else some (nums (textB (s.take i)))) = some (nums (if i = 0 then [] else textB (s.take i) ++ [32])) := by
      by_cases h0 : i = 0
      · subst h0; rfl
      · rw [if_pos (by rw [decide_eq_true_eq]; omega), if_pos (by rw [nums_len]; simp; omega), if_neg h0, nums_app]; rfl
    have l1 := dig3_len s[i].N.toNat
    have l2 := dig3_len s[i].E.toNat
    have l3 := dig3_len s[i].S.toNat
    have l4 := dig3_len s[i].W.toNat
    rw [hfirst, Option.bind_some, if_pos (by omega), rdD_get hi, show (⟨#[46]⟩ : ByteArray) = bts [46] from rfl, digits_int hN (by omega), Option.bind_some, if_pos (by rw [bts_size, bts_size]; simp; omega), digits_int hE (by omega), Option.bind_some, bts_app, if_pos (by rw [bts_size, bts_size]; simp; omega), bts_app, if_pos (by rw [bts_size, bts_size]; simp; omega), bts_app, digits_int hS (by omega), Option.bind_some, if_pos (by rw [bts_size, bts_size]; simp; omega), bts_app, if_pos (by rw [bts_size, bts_size]; simp; omega), bts_app, digits_int hW (by omega), Option.bind_some, if_pos (by rw [bts_size, bts_size]; simp; omega), bts_app, u8s_bts, if_pos (by
      rw [nums_len, bts_size]
      split <;> simp <;> omega), succ64 (by omega)]
    congr 1
    rw [← nums_app]
    congr 1
    have ht : s.take (i + 1) = s.take i ++ [s[i]] := by rw [List.take_add_one, List.getElem?_eq_getElem hi]; rfl
    rw [ht, textB_snoc]
    by_cases h0 : i = 0
    · subst h0; simp [tileB]
    · have hne : s.take i ≠ [] := fun e => by rw [e] at hli; simp at hli; omega
      rw [if_neg h0, if_neg hne]; simp [tileB]) (fun k => by
    show ref01_Text.l0 (k + 1) (nums (textB (s.take s.length))) s.length s = _
    rw [ref01_Text.l0, if_neg (by simp), List.take_length]) k (by omega)
  have this : ref01_Text.l0 k [] 0 s = _ := this
  unfold ref01_Text
  rw [this, Option.bind_some, nums_str]
end Gp
set_option linter.unusedVariables false
set_option linter.unusedSimpArgs false
namespace Gq
open Go Gw
/-! ### cut at a byte -/
theorem index_hit1 (c : UInt8) (R : List UInt8) : ∀ X : List UInt8, c ∉ X → Lib.index (X ++ c :: R) [c] = (X.length : Int)
  | [], _ => by rw [List.nil_append, Lib.index]; simp [List.isPrefixOf]
  | b :: X, h => by
    have hb : ¬ c = b := fun e => h (by rw [e]; exact List.mem_cons_self ..)
    have ih := index_hit1 c R X fun hm => h (List.mem_cons_of_mem _ hm)
    have hp : ([c] : List UInt8).isPrefixOf (b :: (X ++ c :: R)) = false := by simp [List.isPrefixOf, hb]
    rw [List.cons_append, Lib.index, hp, ih, if_neg (by decide), if_neg (by simp)]
    simp
theorem index_miss1 (c : UInt8) : ∀ X : List UInt8, c ∉ X → Lib.index X [c] = -1
  | [], _ => by rw [Lib.index]; rfl
  | b :: X, h => by
    have hb : ¬ c = b := fun e => h (by rw [e]; exact List.mem_cons_self ..)
    have ih := index_miss1 c X fun hm => h (List.mem_cons_of_mem _ hm)
    have hp : ([c] : List UInt8).isPrefixOf (b :: X) = false := by simp [List.isPrefixOf, hb]
    rw [Lib.index, hp, ih]; rfl
theorem extract_bts (l : List UInt8) (i j : Nat) : (bts l).extract i j = bts ((l.drop i).take (j - i)) := by
  apply ByteArray.ext
  simp [bts, ByteArray.data_extract]
theorem split_hit (c : UInt8) (X R : List UInt8) (h : c ∉ X) : splitP (bts (X ++ c :: R)) (bts [c]) = bts X :: splitP (bts R) (bts [c]) := by
  have hi : Lib.indexB (bts (X ++ c :: R)) (bts [c]) = (X.length : Int) := index_hit1 c R X h
  have hs : (bts [c]).size = 1 := rfl
  have e1 : (bts (X ++ c :: R)).extract (X.length + (bts [c]).size) (bts (X ++ c :: R)).size = bts R := by
    rw [extract_bts, hs, bts_size]
    congr 1
    rw [List.drop_append, List.drop_eq_nil_of_le (by omega), List.nil_append]
    rw [show X.length + 1 - X.length = 1 by omega]
    show List.take _ R = R
    exact List.take_of_length_le (by simp; omega)
  unfold splitP
  rw [Lib.countB_hit _ _ X.length (by rw [hs]; decide) hi, Nat.add_comm, Lib.splitB_hit _ _ _ _ X.length hi, e1]
  congr 1
  rw [extract_bts]; simp
theorem split_miss (c : UInt8) (X : List UInt8) (h : c ∉ X) : splitP (bts X) (bts [c]) = [bts X] := by
  unfold splitP
  exact Lib.splitB_miss _ _ _ _ (index_miss1 c X h)
theorem split_sizes (sep : ByteArray) : ∀ (k : Nat) (s x : ByteArray), x ∈ Lib.splitB sep 0 k s → x.size ≤ s.size
  | 0, s, x, h => by rw [Lib.splitB_zero, List.mem_singleton] at h; rw [h]; exact Nat.le_refl _
  | k + 1, s, x, h => by
    rcases Lib.indexB_cases s sep with hix | ⟨i, hix, hroom⟩
    · rw [Lib.splitB_miss _ _ _ _ hix, List.mem_singleton] at h; rw [h]; exact Nat.le_refl _
    · rw [Lib.splitB_hit _ _ _ _ i hix] at h
      rcases List.mem_cons.1 h with rfl | h
      · rw [ByteArray.size_extract]; omega
      · have := split_sizes sep k _ x h
        rw [ByteArray.size_extract] at this; omega
theorem split_len (s : ByteArray) (c : UInt8) : (splitP s (bts [c])).length ≤ s.size + 1 := by
  unfold splitP
  rw [Lib.splitB_all _ (by rw [bts_size]; simp) _ _ _ rfl]
  have := Lib.countB_le (bts [c]) (by rw [bts_size]; simp) s.size s (Nat.le_refl _)
  omega
theorem dig_no {n : Nat} (h : n < 1000) (c : UInt8) (hc : ¬ isD c) : c ∉ dig3 n := fun hm => hc (dig3_digit h c hm)
theorem parse_step (acc : Nat) (b : UInt8) (r : List UInt8) (hb : isD b) (ha : acc < 1000000) : Lib.parseUint10 acc (b :: r) = Lib.parseUint10 (acc * 10 + (b.toNat - 48)) r := by
  rw [Lib.parseUint10, if_pos (show 48 ≤ b.toNat ∧ b.toNat ≤ 57 from hb), if_neg (by omega), if_neg (by have := hb.2; omega)]
theorem atoi3 {n : Nat} (h : n < 1000) : Lib.atoiAll (dig3 n) = .ok (n : Int) := by
  have hD : ∀ x, x < 10 → isD (UInt8.ofNat (48 + x)) ∧ (UInt8.ofNat (48 + x)).toNat = 48 + x := fun x hx => by
    unfold isD; rw [ofNat_toNat (by omega)]; omega
  have key : ∀ (b : UInt8) (r : List UInt8) (u : Nat), isD b → Lib.parseUint10 0 (b :: r) = .ok u → u < 1000 → Lib.atoiAll (b :: r) = .ok (u : Int) := fun b r u hb hp hu => by
    unfold isD at hb
    unfold Lib.atoiAll
    simp only
    rw [if_neg (show ¬ (b.toNat = 43 ∨ b.toNat = 45) by omega)]
    unfold Lib.parseMag
    rw [if_neg (by simp), hp]
    simp only
    rw [if_neg (by omega), if_neg (by omega), if_neg (by omega)]
  unfold dig3
  split
  · obtain ⟨d1, v1⟩ := hD n (by omega)
    refine key _ _ _ d1 ?_ h
    rw [parse_step _ _ _ d1 (by omega), v1]
    show Lib.NumEnd.ok _ = _
    congr 1; omega
  · split
    · obtain ⟨d1, v1⟩ := hD (n / 10) (by omega)
      obtain ⟨d2, v2⟩ := hD (n % 10) (by omega)
      refine key _ _ _ d1 ?_ h
      rw [parse_step _ _ _ d1 (by omega), v1, parse_step _ _ _ d2 (by omega), v2]
      show Lib.NumEnd.ok _ = _
      congr 1; omega
    · obtain ⟨d1, v1⟩ := hD (n / 10 / 10) (by omega)
      obtain ⟨d2, v2⟩ := hD (n / 10 % 10) (by omega)
      obtain ⟨d3, v3⟩ := hD (n % 10) (by omega)
      refine key _ _ _ d1 ?_ h
      rw [parse_step _ _ _ d1 (by omega), v1, parse_step _ _ _ d2 (by omega), v2, parse_step _ _ _ d3 (by omega), v3]
      show Lib.NumEnd.ok _ = _
      congr 1; omega
theorem atoiN3 {v : Int} (h : 0 ≤ v ∧ v < 1000) : atoiN (bts (dig3 v.toNat)) = some (v, false) := by
  have hl := dig3_len v.toNat
  unfold atoiN
  rw [if_pos (by rw [bts_size]; omega), bts_data, atoi3 (by omega)]
  simp only
  rw [Int.toNat_of_nonneg h.1]
theorem atoiN_any (s : ByteArray) (h : s.size ≤ 1000000) : ∃ t, atoiN s = some t := by
  unfold atoiN; rw [if_pos (by omega)]; exact ⟨_, rfl⟩
end Gq
namespace Gp
open Go Gw Gq
/-! ### the program reads a text -/
theorem not_dot : ¬ isD 46 := by unfold isD; decide
theorem not_space : ¬ isD 32 := by unfold isD; decide
theorem split_tile {t : Tile} (h : okC t) : splitP (bts (tileB t)) (bts [46]) = [bts (dig3 t.N.toNat), bts (dig3 t.E.toNat), bts (dig3 t.S.toNat), bts (dig3 t.W.toNat)] := by
  obtain ⟨hN, hE, hS, hW⟩ := h
  unfold tileB
  rw [split_hit 46 _ _ (dig_no (by omega) 46 not_dot), split_hit 46 _ _ (dig_no (by omega) 46 not_dot), split_hit 46 _ _ (dig_no (by omega) 46 not_dot), split_miss 46 _ (dig_no (by omega) 46 not_dot)]
theorem tile_space {t : Tile} (h : okC t) : (32 : UInt8) ∉ tileB t := by
  obtain ⟨hN, hE, hS, hW⟩ := h
  have h1 := dig_no (n := t.N.toNat) (by omega) 32 not_space
  have h2 := dig_no (n := t.E.toNat) (by omega) 32 not_space
  have h3 := dig_no (n := t.S.toNat) (by omega) 32 not_space
  have h4 := dig_no (n := t.W.toNat) (by omega) 32 not_space
  unfold tileB
  simp only [List.mem_append, List.mem_cons, not_or]
  exact ⟨h1, by decide, h2, by decide, h3, by decide, h4⟩
theorem split_text : ∀ (s : List Tile), s ≠ [] → (∀ t ∈ s, okC t) → splitP (bts (textB s)) (bts [32]) = s.map fun t => bts (tileB t)
  | [], h, _ => absurd rfl h
  | [t], _, hc => by
    show splitP (bts (tileB t)) (bts [32]) = _
    rw [split_miss 32 _ (tile_space (hc t (List.mem_cons_self ..)))]; rfl
  | t :: u :: r, _, hc => by
    show splitP (bts (tileB t ++ 32 :: textB (u :: r))) (bts [32]) = _
    rw [split_hit 32 _ _ (tile_space (hc t (List.mem_cons_self ..))), split_text (u :: r) (by simp) fun x hx => hc x (List.mem_cons_of_mem _ hx)]; rfl
theorem parse_l1 (p : ByteArray) (i : Int) {P : List ByteArray} (hP : splitP (rdD (splitP p (bts [32])) i ByteArray.empty) (bts [46]) = P) (h4 : P.length = 4) {t : Int × Bool} (x : Nat) (hx : x < 4) (ht : atoiN (rdD P (x : Int) ByteArray.empty) = some t) (a b c d : Int) (k : Nat) :
    tile_Parse.l1 (k + 1) a b c d x p i = if t.2 = true then some (.inl ([], 3)) else tile_Parse.l1 k (if x = 0 then t.1 else a) (if x = 1 then t.1 else b) (if x = 2 then t.1 else c) (if x = 3 then t.1 else d) ((x + 1 : Nat) : Int) p i := by
  have hP' : splitP (rdD (splitP p (⟨#[32]⟩ : ByteArray)) i ByteArray.empty) (⟨#[46]⟩ : ByteArray) = P := hP
  rw [tile_Parse.l1, hP', if_pos (by rw [decide_eq_true_eq]; omega), if_pos (by omega), ht, Option.bind_some, succ64 (by omega)]
  cases t.2
  · rw [if_neg (show ¬ (false = true) by decide), if_neg (show ¬ (false = true) by decide)]
    have : x = 0 ∨ x = 1 ∨ x = 2 ∨ x = 3 := by omega
    rcases this with rfl | rfl | rfl | rfl <;> rfl
  · rfl
theorem parse_l1e (p : ByteArray) (i : Int) {P : List ByteArray} (hP : splitP (rdD (splitP p (bts [32])) i ByteArray.empty) (bts [46]) = P) (h4 : P.length = 4) (a b c d : Int) (k : Nat) : tile_Parse.l1 (k + 1) a b c d ((4 : Nat) : Int) p i = some (.inr (a, b, c, d)) := by
  have hP' : splitP (rdD (splitP p (⟨#[32]⟩ : ByteArray)) i ByteArray.empty) (⟨#[46]⟩ : ByteArray) = P := hP
  rw [tile_Parse.l1, hP', if_neg (by rw [decide_eq_true_eq]; omega)]
theorem parse_l1_tile (p : ByteArray) (i : Int) {t : Tile} (h : okC t) (hp : rdD (splitP p (bts [32])) i ByteArray.empty = bts (tileB t)) (k : Nat) : tile_Parse.l1 (k + 5) 0 0 0 0 0 p i = some (.inr (t.N, t.E, t.S, t.W)) := by
  have hP : splitP (rdD (splitP p (bts [32])) i ByteArray.empty) (bts [46]) = [bts (dig3 t.N.toNat), bts (dig3 t.E.toNat), bts (dig3 t.S.toNat), bts (dig3 t.W.toNat)] := by rw [hp]; exact split_tile h
  have s0 := parse_l1 p i hP rfl 0 (by omega) (atoiN3 h.1) 0 0 0 0 (k + 4)
  have s1 := parse_l1 p i hP rfl 1 (by omega) (atoiN3 h.2.1) t.N 0 0 0 (k + 3)
  have s2 := parse_l1 p i hP rfl 2 (by omega) (atoiN3 h.2.2.1) t.N t.E 0 0 (k + 2)
  have s3 := parse_l1 p i hP rfl 3 (by omega) (atoiN3 h.2.2.2) t.N t.E t.S 0 (k + 1)
  have s4 := parse_l1e p i hP rfl t.N t.E t.S t.W k
  exact s0.trans (s1.trans (s2.trans (s3.trans s4)))
theorem parse_text {s : List Tile} (hv : validT s = true) {k : Nat} (hk : 5000 < k) : tile_Parse k (bts (textB s)) = some (s, 0) := by
  have hc := valid_okC hv
  have hl := valid_len hv
  have hlen := textB_len s
  unfold tile_Parse
  rw [show (⟨#[]⟩ : ByteArray) = bts [] from rfl, strEq_bts]
  by_cases h0 : s = []
  · subst h0; rfl
  rw [if_neg (by rw [decide_eq_true_eq]; exact fun e => h0 (textB_nil e)), if_neg (by rw [decide_eq_true_eq, bts_size]; omega), if_pos ⟨by rw [bts_size]; omega, by decide⟩]
  have hsp := split_text s h0 hc
  have := loop_to (F := fun k i l => tile_Parse.l0 k l i (bts (textB s))) (S := fun i => s.take i) (n := s.length) (K := 5) (r := (.inr s : Sum (List Tile × Int) (List Tile))) (fun k i hk hi => by
    show tile_Parse.l0 (k + 1) (s.take i) i (bts (textB s)) = tile_Parse.l0 k (s.take (i + 1)) ((i + 1 : Nat) : Int) (bts (textB s))
    obtain ⟨j, rfl⟩ : ∃ j, k = j + 5 := ⟨k - 5, by omega⟩
    have hp : rdD (splitP (bts (textB s)) (bts [32])) (i : Int) ByteArray.empty = bts (tileB s[i]) := by rw [hsp, rdD_get (by simpa using hi)]; simp
    have hst := split_tile (hc _ (List.getElem_mem hi))
    have htl := tileB_len s[i]
    rw [tile_Parse.l0, show (⟨#[32]⟩ : ByteArray) = bts [32] from rfl, show (⟨#[46]⟩ : ByteArray) = bts [46] from rfl, hp, hst, if_pos (by rw [hsp]; simpa using hi), if_pos (by rw [hsp]; simp; omega), if_pos ⟨by rw [bts_size]; omega, by decide⟩, if_neg (by simp; omega), parse_l1_tile _ _ (hc _ (List.getElem_mem hi)) hp, Option.bind_some]
    simp only [sumb]
    rw [if_pos (by simp; omega), succ64 (by omega)]
    congr 1
    rw [List.take_add_one, List.getElem?_eq_getElem hi]; rfl) (fun k => by
    show tile_Parse.l0 (k + 1) (s.take s.length) s.length (bts (textB s)) = _
    rw [tile_Parse.l0, show (⟨#[32]⟩ : ByteArray) = bts [32] from rfl, if_neg (by rw [hsp]; simp), List.take_length]) k (by omega)
  have this : tile_Parse.l0 k [] 0 (bts (textB s)) = _ := this
  rw [this, Option.bind_some]
  simp only [sumb]
  rw [tile_valid s (by omega) (by omega), hv, Option.bind_some, if_neg (by decide), write_eq hl hc (by omega), Option.bind_some, Option.bind_some, strEq_bts, if_neg (by simp)]
theorem parse_any (p : ByteArray) (hp : p.size ≤ 70000) {k : Nat} (hk : 100000 < k) : ∃ r, tile_Parse k p = some r ∧ (r = ([], 3) ∨ (r.2 = 0 ∧ validT r.1 = true ∧ bts (textB r.1) = p)) := by
  unfold tile_Parse
  rw [show (⟨#[]⟩ : ByteArray) = bts [] from rfl, ← bts_of p, strEq_bts]
  by_cases h0 : p.data.toList = []
  · rw [h0, if_pos (by decide)]
    exact ⟨_, rfl, .inr ⟨rfl, by decide, rfl⟩⟩
  rw [if_neg (by rw [decide_eq_true_eq]; exact h0), bts_of]
  by_cases h1 : (p.size : Int) > 16000
  · rw [if_pos (decide_eq_true h1)]; exact ⟨_, rfl, .inl rfl⟩
  rw [if_neg (by rw [decide_eq_true_eq]; exact h1), if_pos ⟨by omega, by decide⟩]
  obtain ⟨P, hP⟩ : ∃ P, splitP p (bts [32]) = P := ⟨_, rfl⟩
  have hPl : P.length ≤ p.size + 1 := by rw [← hP]; exact split_len p 32
  have hPs : ∀ x ∈ P, x.size ≤ p.size := fun x hx => by rw [← hP] at hx; exact split_sizes _ _ _ x hx
  have key : ∀ (d i k : Nat) (set : List Tile), i + d = P.length → set.length = i → d + 10 < k → tile_Parse.l0 k set i p = some (.inl ([], 3)) ∨ ∃ set', set'.length ≤ P.length ∧ tile_Parse.l0 k set i p = some (.inr set') := by
    intro d
    induction d with
    | zero =>
      intro i k set hd hs hk
      obtain ⟨k, rfl⟩ : ∃ m, k = m + 1 := ⟨k - 1, by omega⟩
      refine .inr ⟨set, by omega, ?_⟩
      rw [tile_Parse.l0, show (⟨#[32]⟩ : ByteArray) = bts [32] from rfl, hP, if_neg (by rw [decide_eq_true_eq]; omega)]
    | succ d ih =>
      intro i k set hd hs hk
      obtain ⟨k, rfl⟩ : ∃ m, k = m + 6 := ⟨k - 6, by omega⟩
      have hi : i < P.length := by omega
      have hsz := hPs _ (List.getElem_mem hi)
      rw [tile_Parse.l0, show (⟨#[32]⟩ : ByteArray) = bts [32] from rfl, show (⟨#[46]⟩ : ByteArray) = bts [46] from rfl, hP, if_pos (by rw [decide_eq_true_eq]; omega), if_pos (by omega), rdD_get hi, if_pos ⟨by omega, by decide⟩]
      obtain ⟨Q, hQ⟩ : ∃ Q, splitP P[i] (bts [46]) = Q := ⟨_, rfl⟩
      rw [hQ]
      by_cases h4 : Q.length = 4
      rotate_left
      · rw [if_pos (by rw [Bool.or_eq_true]; left; simp; omega)]; exact .inl rfl
      by_cases hb : (set.length : Int) > 1000
      · rw [if_pos (by rw [Bool.or_eq_true]; right; exact decide_eq_true hb)]; exact .inl rfl
      rw [if_neg (by rw [Bool.or_eq_true, not_or]; exact ⟨by simp; omega, by rw [decide_eq_true_eq]; exact hb⟩)]
      have hQ2 : splitP (rdD (splitP p (bts [32])) (i : Int) ByteArray.empty) (bts [46]) = Q := by rw [hP, rdD_get hi]; exact hQ
      have hQs : ∀ x : Nat, x < 4 → ∃ t, atoiN (rdD Q (x : Int) ByteArray.empty) = some t := fun x hx => by
        rw [rdD_get (show x < Q.length by omega)]
        refine atoiN_any _ ?_
        have := split_sizes (bts [46]) _ _ _ (show Q[x] ∈ Lib.splitB (bts [46]) 0 (Lib.countB P[i] (bts [46])) P[i] by
          have : Lib.splitB (bts [46]) 0 (Lib.countB P[i] (bts [46])) P[i] = Q := hQ
          rw [this]; exact List.getElem_mem _)
        omega
      obtain ⟨t0, ht0⟩ := hQs 0 (by omega)
      obtain ⟨t1, ht1⟩ := hQs 1 (by omega)
      obtain ⟨t2, ht2⟩ := hQs 2 (by omega)
      obtain ⟨t3, ht3⟩ := hQs 3 (by omega)
      have s0 : tile_Parse.l1 (k + 5) 0 0 0 0 0 p i = _ := parse_l1 p i hQ2 h4 0 (by omega) ht0 0 0 0 0 (k + 4)
      have s1 := parse_l1 p i hQ2 h4 1 (by omega) ht1 t0.1 0 0 0 (k + 3)
      have s2 := parse_l1 p i hQ2 h4 2 (by omega) ht2 t0.1 t1.1 0 0 (k + 2)
      have s3 := parse_l1 p i hQ2 h4 3 (by omega) ht3 t0.1 t1.1 t2.1 0 (k + 1)
      have s4 := parse_l1e p i hQ2 h4 t0.1 t1.1 t2.1 t3.1 k
      have hl1 : tile_Parse.l1 (k + 5) 0 0 0 0 0 p i = some (.inl ([], 3)) ∨ ∃ y, tile_Parse.l1 (k + 5) 0 0 0 0 0 p i = some (.inr y) := by
        rw [s0]
        cases t0.2
        rotate_left
        · exact .inl rfl
        show tile_Parse.l1 (k + 4) t0.1 0 0 0 ((1 : Nat) : Int) p i = _ ∨ ∃ y, tile_Parse.l1 (k + 4) t0.1 0 0 0 ((1 : Nat) : Int) p i = _
        rw [s1]
        cases t1.2
        rotate_left
        · exact .inl rfl
        show tile_Parse.l1 (k + 3) t0.1 t1.1 0 0 ((2 : Nat) : Int) p i = _ ∨ ∃ y, tile_Parse.l1 (k + 3) t0.1 t1.1 0 0 ((2 : Nat) : Int) p i = _
        rw [s2]
        cases t2.2
        rotate_left
        · exact .inl rfl
        show tile_Parse.l1 (k + 2) t0.1 t1.1 t2.1 0 ((3 : Nat) : Int) p i = _ ∨ ∃ y, tile_Parse.l1 (k + 2) t0.1 t1.1 t2.1 0 ((3 : Nat) : Int) p i = _
        rw [s3]
        cases t3.2
        rotate_left
        · exact .inl rfl
        exact .inr ⟨_, s4⟩
      rcases hl1 with e | ⟨y, e⟩
      · rw [e, Option.bind_some]; exact .inl rfl
      · rw [e, Option.bind_some]
        simp only [sumb]
        rw [if_pos (by simp; omega), succ64 (by omega)]
        exact ih (i + 1) (k + 5) _ (by omega) (by simp [hs]) (by omega)
  rcases key P.length 0 k [] (by omega) rfl (by omega) with e | ⟨set, hsl, e⟩
  · have e : tile_Parse.l0 k [] 0 p = _ := e
    rw [e, Option.bind_some]; exact ⟨_, rfl, .inl rfl⟩
  · have e : tile_Parse.l0 k [] 0 p = _ := e
    rw [e, Option.bind_some]
    simp only [sumb]
    rw [tile_valid set (by omega) (by omega), Option.bind_some]
    cases hv : validT set
    · exact ⟨_, rfl, .inl rfl⟩
    rw [if_neg (by decide), write_eq (valid_len hv) (valid_okC hv) (by omega), Option.bind_some, Option.bind_some]
    have hq : strEq (bts (textB set)) p = decide (textB set = p.data.toList) := strEq_bts (textB set) p.data.toList
    rw [hq]
    by_cases ht : textB set = p.data.toList
    · rw [decide_eq_true ht, if_neg (by decide)]
      exact ⟨_, rfl, .inr ⟨rfl, hv, by rw [ht, bts_of]⟩⟩
    · rw [decide_eq_false ht, if_pos (by decide)]; exact ⟨_, rfl, .inl rfl⟩
end Gp
set_option linter.unusedVariables false
set_option linter.unusedSimpArgs false
namespace Gp
open Go Gw Gq
/-! ### the reference reads a text -/
theorem first_part {α : Type} (p : ByteArray) {i : Nat} (hi : i ≤ p.size) (f : Bool → Option α) : ((if decide ((i : Int) < (p.size : Int)) = true then (if 0 ≤ (i : Int) ∧ (i : Int) < (p.size : Int) then some (decide (strAt p i ≥ 48)) else none) else some false).bind fun b => (if b = true then (if 0 ≤ (i : Int) ∧ (i : Int) < (p.size : Int) then some (decide (strAt p i ≤ 57)) else none) else some false).bind f) = f (decide (i < p.size ∧ 48 ≤ strAt p i ∧ strAt p i ≤ 57)) := by
  by_cases h : i < p.size
  · rw [if_pos (by rw [decide_eq_true_eq]; omega), if_pos (by omega), Option.bind_some]
    by_cases h1 : strAt p i ≥ 48
    · rw [if_pos (decide_eq_true h1), if_pos (by omega), Option.bind_some]
      congr 1
      rw [Bool.eq_iff_iff, decide_eq_true_eq, decide_eq_true_eq]
      exact ⟨fun h2 => ⟨h, h1, h2⟩, fun h2 => h2.2.2⟩
    · rw [if_neg (by rw [decide_eq_true_eq]; exact h1), Option.bind_some, decide_eq_false (fun h2 => h1 h2.2.1)]
  · rw [if_neg (by rw [decide_eq_true_eq]; omega), Option.bind_some, if_neg (by decide), Option.bind_some, decide_eq_false (fun h2 => h h2.1)]
theorem second_part {α : Type} (p : ByteArray) {i t m : Nat} (hi : i ≤ p.size) (f : Bool → Option α) : ((if ((m : Int) == 0) = true then some true else ((if (((t : Int) == 3) && decide ((i : Int) < (p.size : Int))) = true then (if 0 ≤ (i : Int) ∧ (i : Int) < (p.size : Int) then some (strAt p i != 32) else none) else some false).bind fun b => some b)).bind f) = f (decide (m = 0 ∨ (t = 3 ∧ i < p.size ∧ strAt p i ≠ 32))) := by
  by_cases h0 : m = 0
  · rw [if_pos (by simp [h0]), Option.bind_some, decide_eq_true (.inl h0)]
  · rw [if_neg (by simp; omega)]
    by_cases h : t = 3 ∧ i < p.size
    · rw [if_pos (by simp; omega), if_pos (by omega), Option.bind_some, Option.bind_some]
      congr 1
      rw [Bool.eq_iff_iff, decide_eq_true_eq, bne_iff_ne]
      exact ⟨fun h2 => .inr ⟨h.1, h.2, h2⟩, fun h2 => (h2.resolve_left h0).2.2⟩
    · rw [if_neg (by simp; omega), Option.bind_some, Option.bind_some]
      congr 1
      exact (decide_eq_false (fun h2 => h2.elim h0 fun h2 => h ⟨h2.1, h2.2.1⟩)).symm
theorem third_part {α : Type} (p : ByteArray) {i t : Nat} (hi : i ≤ p.size) (b : Bool) (f : Bool → Option α) : ((if b = true then some true else ((if decide ((t : Int) < 3) = true then ((if ((i : Int) == (p.size : Int)) = true then some true else (if 0 ≤ (i : Int) ∧ (i : Int) < (p.size : Int) then some (strAt p i != 46) else none)).bind fun b => some b) else some false).bind fun b => some b)).bind f) = f (decide (b = true ∨ (t < 3 ∧ (i = p.size ∨ strAt p i ≠ 46)))) := by
  cases b
  rotate_left
  · rw [if_pos rfl, Option.bind_some, decide_eq_true (.inl rfl)]
  rw [if_neg (by decide)]
  by_cases h : t < 3
  · rw [if_pos (by rw [decide_eq_true_eq]; omega)]
    by_cases he : i = p.size
    · rw [if_pos (by simp [he]), Option.bind_some, Option.bind_some, Option.bind_some, decide_eq_true (.inr ⟨h, .inl he⟩)]
    · rw [if_neg (by simp; omega), if_pos (by omega), Option.bind_some, Option.bind_some, Option.bind_some]
      congr 1
      rw [Bool.eq_iff_iff, decide_eq_true_eq, bne_iff_ne]
      exact ⟨fun h2 => .inr ⟨h, .inr h2⟩, fun h2 => ((h2.resolve_left (by decide)).2).resolve_left he⟩
  · rw [if_neg (by rw [decide_eq_true_eq]; omega), Option.bind_some, Option.bind_some]
    congr 1
    exact (decide_eq_false (fun h2 => h2.elim (by decide) fun h2 => h h2.1)).symm
theorem ref_step (p : ByteArray) (hp : p.size ≤ 1000000) {i : Nat} (hi : i ≤ p.size) (S : List Tile) (hS : S.length ≤ 1000000) (a b c d n : Int) {t m : Nat} (ht : t ≤ 3) (hm : m ≤ 4) (k : Nat) : ref01_Parse.l0 (k + 1) S a b c d t n m i p =
    if (i < p.size ∧ 48 ≤ strAt p i ∧ strAt p i ≤ 57) ∧ m < 4 then ref01_Parse.l0 k S a b c d t (w64 ((w64 (10 * n)) + (w64 (IntKind.wrap .u8 (strAt p i - 48))))) ((m + 1 : Nat) : Int) ((i + 1 : Nat) : Int) p
    else if (m = 0 ∨ (t = 3 ∧ i < p.size ∧ strAt p i ≠ 32)) ∨ (t < 3 ∧ (i = p.size ∨ strAt p i ≠ 46)) then some (.inl ([], false))
    else ref01_Parse.l0 k (if t = 3 then S ++ [⟨a, b, c, n⟩] else S) (if t = 0 then n else a) (if t = 1 then n else b) (if t = 2 then n else c) (if t = 3 then n else d) (if t = 3 then 0 else ((t + 1 : Nat) : Int)) 0 0 ((i + 1 : Nat) : Int) p := by
  rw [ref01_Parse.l0, if_pos (by rw [decide_eq_true_eq]; omega), first_part p hi]
  have hwi : w64 ((i : Int) + 1) = ((i + 1 : Nat) : Int) := by rw [w64_id (by omega) (by omega)]; rfl
  have hwm : w64 ((m : Int) + 1) = ((m + 1 : Nat) : Int) := by rw [w64_id (by omega) (by omega)]; rfl
  by_cases h1 : (i < p.size ∧ 48 ≤ strAt p i ∧ strAt p i ≤ 57) ∧ m < 4
  · rw [if_pos h1, if_pos (by rw [Bool.and_eq_true, decide_eq_true_eq, decide_eq_true_eq]; exact ⟨h1.1, by omega⟩), if_pos (by omega), Option.bind_some]
    simp only [sumb]
    rw [hwm, hwi]
  · rw [if_neg h1, if_neg (by rw [Bool.and_eq_true, decide_eq_true_eq, decide_eq_true_eq]; exact fun h2 => h1 ⟨h2.1, by omega⟩), second_part p hi, third_part p hi]
    by_cases h2 : (m = 0 ∨ (t = 3 ∧ i < p.size ∧ strAt p i ≠ 32)) ∨ (t < 3 ∧ (i = p.size ∨ strAt p i ≠ 46))
    · rw [if_pos h2, if_pos (by rw [decide_eq_true_eq, decide_eq_true_eq]; exact h2), Option.bind_some]; rfl
    · rw [if_neg h2, if_neg (by rw [decide_eq_true_eq, decide_eq_true_eq]; exact h2)]
      have hw1 : w64 (((0 : Nat) : Int) + 1) = 1 := by rw [w64_id (by omega) (by omega)]; rfl
      have hw2 : w64 (((1 : Nat) : Int) + 1) = 2 := by rw [w64_id (by omega) (by omega)]; rfl
      have hw3 : w64 (((2 : Nat) : Int) + 1) = 3 := by rw [w64_id (by omega) (by omega)]; rfl
      have hw4 : w64 (((3 : Nat) : Int) + 1) = 4 := by rw [w64_id (by omega) (by omega)]; rfl
      have : t = 0 ∨ t = 1 ∨ t = 2 ∨ t = 3 := by omega
      rcases this with rfl | rfl | rfl | rfl
      · rw [hw1, hwi]; rfl
      · rw [hw2, hwi]; rfl
      · rw [hw3, hwi]; rfl
      · rw [hw4, hwi, if_neg (by decide), if_neg (by decide), if_neg (by decide), if_pos (by decide), if_pos (by decide), if_pos (by simp; omega)]; rfl
theorem ref_end (p : ByteArray) {i : Nat} (hi : p.size < i) (S : List Tile) (a b c d t n m : Int) (k : Nat) : ref01_Parse.l0 (k + 1) S a b c d t n m i p = some (.inr (S, t)) := by
  rw [ref01_Parse.l0, if_neg (by rw [decide_eq_true_eq]; omega)]
theorem ref_any (p : ByteArray) (hp : p.size ≤ 1000000) : ∀ (e i k : Nat) (S : List Tile) (a b c d n : Int) (t m : Nat), i + e = p.size + 1 → S.length ≤ i → t ≤ 3 → m ≤ 4 → e < k → ref01_Parse.l0 k S a b c d t n m i p = some (.inl ([], false)) ∨ ∃ S' t' : _, S'.length ≤ p.size + 1 ∧ ref01_Parse.l0 k S a b c d t n m i p = some (.inr (S', t'))
  | 0, i, k, S, a, b, c, d, n, t, m, hi, hS, ht, hm, hk => by
    obtain ⟨k, rfl⟩ : ∃ m, k = m + 1 := ⟨k - 1, by omega⟩
    exact .inr ⟨S, t, by omega, ref_end p (by omega) S a b c d t n m k⟩
  | e + 1, i, k, S, a, b, c, d, n, t, m, hi, hS, ht, hm, hk => by
    obtain ⟨k, rfl⟩ : ∃ m, k = m + 1 := ⟨k - 1, by omega⟩
    rw [ref_step p hp (by omega) S (by omega) a b c d n ht hm k]
    split
    · rename_i h1
      exact ref_any p hp e (i + 1) k S a b c d _ t (m + 1) (by omega) (by omega) ht (by omega) (by omega)
    · split
      · exact .inl rfl
      · by_cases h3 : t = 3
        · subst h3
          exact ref_any p hp e (i + 1) k (S ++ [⟨a, b, c, n⟩]) a b c n 0 0 0 (by omega) (by simp; omega) (by omega) (by omega) (by omega)
        · rw [if_neg h3, if_neg h3, if_neg h3]
          exact ref_any p hp e (i + 1) k S _ _ _ _ 0 (t + 1) 0 (by omega) (by omega) (by omega) (by omega) (by omega)
theorem strAt_at (pre : List UInt8) (x : UInt8) (post : List UInt8) : strAt (bts (pre ++ x :: post)) (pre.length : Int) = (x.toNat : Int) := by
  unfold strAt
  rw [bts_data, Int.toNat_natCast]
  simp [List.getElem?_append_right]
theorem ref_dig (post : List UInt8) (S : List Tile) (hS : S.length ≤ 1000000) (a b c d : Int) {t : Nat} (ht : t ≤ 3) : ∀ (l pre : List UInt8) (n m k : Nat), (∀ x ∈ l, isD x) → m + l.length ≤ 4 → n < 10 ^ m → (pre ++ (l ++ post)).length ≤ 1000000 → ref01_Parse.l0 (k + l.length) S a b c d t n m pre.length (bts (pre ++ (l ++ post))) = ref01_Parse.l0 k S a b c d t (l.foldl (fun n x => 10 * n + (x.toNat - 48)) n : Nat) ((m + l.length : Nat) : Int) ((pre.length + l.length : Nat) : Int) (bts (pre ++ (l ++ post)))
  | [], pre, n, m, k, _, _, _, _ => rfl
  | x :: l, pre, n, m, k, hl, hm, hn, hz => by
    have hx := hl x (List.mem_cons_self ..)
    unfold isD at hx
    simp only [List.length_cons] at hm
    have hat : strAt (bts (pre ++ (x :: l ++ post))) (pre.length : Int) = (x.toNat : Int) := strAt_at pre x (l ++ post)
    have hsz : (bts (pre ++ (x :: l ++ post))).size = pre.length + (l.length + 1 + post.length) := by rw [bts_size]; simp; omega
    have hz2 : pre.length + (l.length + 1 + post.length) ≤ 1000000 := by simp at hz; omega
    have hp4 : 10 ^ m ≤ 10 ^ 4 := Nat.pow_le_pow_right (by decide) (by omega)
    rw [show k + (x :: l).length = (k + l.length) + 1 by simp; omega, ref_step _ (by omega) (by omega) S hS a b c d n ht (by omega), hat, if_pos ⟨⟨by omega, by omega, by omega⟩, by omega⟩]
    have e1 : w64 (w64 (10 * (n : Int)) + w64 (IntKind.wrap .u8 ((x.toNat : Int) - 48))) = ((10 * n + (x.toNat - 48) : Nat) : Int) := by
      rw [wrap8 (by omega) (by omega), w64_id (n := 10 * (n : Int)) (by omega) (by omega), w64_id (n := (x.toNat : Int) - 48) (by omega) (by omega), w64_id (by omega) (by omega)]; omega
    have e2 : pre ++ (x :: l ++ post) = (pre ++ [x]) ++ (l ++ post) := by simp
    have ih := ref_dig post S hS a b c d ht l (pre ++ [x]) (10 * n + (x.toNat - 48)) (m + 1) k (fun y hy => hl y (List.mem_cons_of_mem _ hy)) (by omega) (by rw [Nat.pow_succ]; omega) (by simpa using hz)
    rw [e1, e2]
    rw [List.length_append, List.length_singleton] at ih
    rw [ih, List.foldl_cons, List.length_cons]
    congr 1 <;> omega
theorem dig3_val {n : Nat} (h : n < 1000) : (dig3 n).foldl (fun n x => 10 * n + (x.toNat - 48)) 0 = n := by
  unfold dig3
  split
  · simp only [List.foldl_cons, List.foldl_nil]; rw [ofNat_toNat (by omega)]; omega
  · split
    · simp only [List.foldl_cons, List.foldl_nil]; rw [ofNat_toNat (by omega), ofNat_toNat (by omega)]; omega
    · simp only [List.foldl_cons, List.foldl_nil]; rw [ofNat_toNat (by omega), ofNat_toNat (by omega), ofNat_toNat (by omega)]; omega
theorem ref_num {v : Int} (hv : 0 ≤ v ∧ v < 1000) (S : List Tile) (hS : S.length ≤ 1000000) (a b c d : Int) {t : Nat} (ht : t ≤ 3) (pre : List UInt8) (x : UInt8) (post : List UInt8) (hx : x = if t = 3 then 32 else 46) (hz : (pre ++ (dig3 v.toNat ++ x :: post)).length ≤ 1000000) (k : Nat) :
    ref01_Parse.l0 (k + ((dig3 v.toNat).length + 1)) S a b c d t 0 0 pre.length (bts (pre ++ (dig3 v.toNat ++ x :: post))) = ref01_Parse.l0 k (if t = 3 then S ++ [⟨a, b, c, v⟩] else S) (if t = 0 then v else a) (if t = 1 then v else b) (if t = 2 then v else c) (if t = 3 then v else d) (if t = 3 then 0 else ((t + 1 : Nat) : Int)) 0 0 ((pre ++ (dig3 v.toNat ++ [x])).length : Int) (bts ((pre ++ (dig3 v.toNat ++ [x])) ++ post)) := by
  have hd := dig3_digit (n := v.toNat) (by omega)
  have hl := dig3_len v.toNat
  have h1 := ref_dig (x :: post) S hS a b c d ht (dig3 v.toNat) pre 0 0 (k + 1) hd (by omega) (by decide) hz
  rw [dig3_val (by omega)] at h1
  have hv2 : ((v.toNat : Nat) : Int) = v := by omega
  rw [hv2, Nat.zero_add] at h1
  have h1 : ref01_Parse.l0 (k + ((dig3 v.toNat).length + 1)) S a b c d t 0 0 pre.length (bts (pre ++ (dig3 v.toNat ++ x :: post))) = ref01_Parse.l0 (k + 1) S a b c d t v (((dig3 v.toNat).length : Nat) : Int) ((pre.length + (dig3 v.toNat).length : Nat) : Int) (bts (pre ++ (dig3 v.toNat ++ x :: post))) := by
    rw [show k + ((dig3 v.toNat).length + 1) = k + 1 + (dig3 v.toNat).length by omega]; exact h1
  have e2 : pre ++ (dig3 v.toNat ++ x :: post) = (pre ++ dig3 v.toNat) ++ x :: post := by simp
  have hat : strAt (bts (pre ++ (dig3 v.toNat ++ x :: post))) ((pre.length + (dig3 v.toNat).length : Nat) : Int) = (x.toNat : Int) := by
    rw [e2, ← List.length_append]; exact strAt_at _ x post
  have hsz : (bts (pre ++ (dig3 v.toNat ++ x :: post))).size = pre.length + ((dig3 v.toNat).length + (post.length + 1)) := by rw [bts_size]; simp
  have hz2 : pre.length + ((dig3 v.toNat).length + (post.length + 1)) ≤ 1000000 := by simpa using hz
  rw [h1, ref_step _ (by omega) (by omega) S hS a b c d v ht (by omega), hat]
  have hx2 : (x.toNat : Int) = if t = 3 then 32 else 46 := by rw [hx]; split <;> rfl
  rw [if_neg (fun h => by
    have := h.1.2.1
    rw [hx2] at this
    split at this <;> omega), if_neg (fun h => by
    rw [hx2] at h
    by_cases h3 : t = 3
    · simp only [h3, if_true] at h
      omega
    · simp only [if_neg h3] at h
      omega)]
  congr 1
  · simp; omega
  · simp
theorem ref_num_end {v : Int} (hv : 0 ≤ v ∧ v < 1000) (S : List Tile) (hS : S.length ≤ 1000000) (a b c d : Int) (pre : List UInt8) (hz : (pre ++ dig3 v.toNat).length ≤ 1000000) (k : Nat) :
    ref01_Parse.l0 (k + ((dig3 v.toNat).length + 2)) S a b c d 3 0 0 pre.length (bts (pre ++ dig3 v.toNat)) = some (.inr (S ++ [⟨a, b, c, v⟩], 0)) := by
  have hd := dig3_digit (n := v.toNat) (by omega)
  have hl := dig3_len v.toNat
  have h1 := ref_dig [] S hS a b c d (show 3 ≤ 3 by omega) (dig3 v.toNat) pre 0 0 (k + 2) hd (by omega) (by decide) (by simpa using hz)
  rw [dig3_val (by omega), List.append_nil] at h1
  have hv2 : ((v.toNat : Nat) : Int) = v := by omega
  rw [hv2, Nat.zero_add] at h1
  have h1 : ref01_Parse.l0 (k + ((dig3 v.toNat).length + 2)) S a b c d 3 0 0 pre.length (bts (pre ++ dig3 v.toNat)) = ref01_Parse.l0 (k + 2) S a b c d 3 v (((dig3 v.toNat).length : Nat) : Int) ((pre.length + (dig3 v.toNat).length : Nat) : Int) (bts (pre ++ dig3 v.toNat)) := by
    rw [show k + ((dig3 v.toNat).length + 2) = k + 2 + (dig3 v.toNat).length by omega]; exact h1
  have hsz : (bts (pre ++ dig3 v.toNat)).size = pre.length + (dig3 v.toNat).length := by rw [bts_size]; simp
  have hz2 : pre.length + (dig3 v.toNat).length ≤ 1000000 := by simpa using hz
  rw [h1, show k + 2 = (k + 1) + 1 by omega]
  refine Eq.trans (ref_step _ (by omega) (by omega) S hS a b c d v (show 3 ≤ 3 by omega) (by omega) (k + 1)) ?_
  rw [if_neg (fun h => by omega), if_neg (fun h => by omega)]
  exact ref_end _ (by omega) _ _ _ _ _ _ _ _ _
theorem ref_text : ∀ (s : List Tile), s ≠ [] → (∀ t ∈ s, okC t) → ∀ (S : List Tile) (a b c d : Int) (pre : List UInt8) (k : Nat), S.length + s.length ≤ 1000000 → (pre ++ textB s).length ≤ 1000000 → (textB s).length + 2 ≤ k → ref01_Parse.l0 k S a b c d 0 0 0 pre.length (bts (pre ++ textB s)) = some (.inr (S ++ s, 0))
  | [], h, _, _, _, _, _, _, _, _, _, _, _ => absurd rfl h
  | [t], _, hc, S, a, b, c, d, pre, k, hS, hz, hk => by
    obtain ⟨hN, hE, hSo, hW⟩ := hc t (List.mem_cons_self ..)
    have e : textB [t] = tileB t := rfl
    rw [e] at hz hk ⊢
    have eT : tileB t = dig3 t.N.toNat ++ 46 :: (dig3 t.E.toNat ++ 46 :: (dig3 t.S.toNat ++ 46 :: dig3 t.W.toNat)) := rfl
    rw [eT] at hz hk ⊢
    simp only [List.length_append, List.length_cons] at hz hk
    obtain ⟨j, rfl⟩ : ∃ j, k = j + ((dig3 t.W.toNat).length + 2) + ((dig3 t.S.toNat).length + 1) + ((dig3 t.E.toNat).length + 1) + ((dig3 t.N.toNat).length + 1) := ⟨k - ((dig3 t.W.toNat).length + 2) - ((dig3 t.S.toNat).length + 1) - ((dig3 t.E.toNat).length + 1) - ((dig3 t.N.toNat).length + 1), by omega⟩
    simp only [List.length_cons, List.length_nil] at hS
    rw [show (0 : Int) = ((0 : Nat) : Int) from rfl, show (46 : UInt8) = if (0 : Nat) = 3 then 32 else 46 from rfl]
    have s1 := ref_num hN S (by omega) a b c d (t := 0) (by omega) pre 46 (dig3 t.E.toNat ++ 46 :: (dig3 t.S.toNat ++ 46 :: dig3 t.W.toNat)) rfl (by simp only [List.length_append, List.length_cons]; omega) (j + ((dig3 t.W.toNat).length + 2) + ((dig3 t.S.toNat).length + 1) + ((dig3 t.E.toNat).length + 1))
    have s2 := ref_num hE S (by omega) t.N b c d (t := 1) (by omega) (pre ++ (dig3 t.N.toNat ++ [46])) 46 (dig3 t.S.toNat ++ 46 :: dig3 t.W.toNat) rfl (by simp only [List.length_append, List.length_cons, List.length_nil]; omega) (j + ((dig3 t.W.toNat).length + 2) + ((dig3 t.S.toNat).length + 1))
    have s3 := ref_num hSo S (by omega) t.N t.E c d (t := 2) (by omega) (pre ++ (dig3 t.N.toNat ++ [46]) ++ (dig3 t.E.toNat ++ [46])) 46 (dig3 t.W.toNat) rfl (by simp only [List.length_append, List.length_cons, List.length_nil]; omega) (j + ((dig3 t.W.toNat).length + 2))
    have s4 := ref_num_end hW S (by omega) t.N t.E t.S d (pre ++ (dig3 t.N.toNat ++ [46]) ++ (dig3 t.E.toNat ++ [46]) ++ (dig3 t.S.toNat ++ [46])) (by simp only [List.length_append, List.length_cons, List.length_nil]; omega) j
    exact s1.trans (s2.trans (s3.trans s4))
  | t :: u :: r, _, hc, S, a, b, c, d, pre, k, hS, hz, hk => by
    obtain ⟨hN, hE, hSo, hW⟩ := hc t (List.mem_cons_self ..)
    have e : textB (t :: u :: r) = dig3 t.N.toNat ++ 46 :: (dig3 t.E.toNat ++ 46 :: (dig3 t.S.toNat ++ 46 :: (dig3 t.W.toNat ++ 32 :: textB (u :: r)))) := by
      show tileB t ++ 32 :: textB (u :: r) = _
      unfold tileB; simp
    rw [e] at hz hk ⊢
    simp only [List.length_append, List.length_cons] at hz hk
    simp only [List.length_cons] at hS
    obtain ⟨j, rfl⟩ : ∃ j, k = j + ((dig3 t.W.toNat).length + 1) + ((dig3 t.S.toNat).length + 1) + ((dig3 t.E.toNat).length + 1) + ((dig3 t.N.toNat).length + 1) := ⟨k - ((dig3 t.W.toNat).length + 1) - ((dig3 t.S.toNat).length + 1) - ((dig3 t.E.toNat).length + 1) - ((dig3 t.N.toNat).length + 1), by omega⟩
    have s1 := ref_num hN S (by omega) a b c d (t := 0) (by omega) pre 46 (dig3 t.E.toNat ++ 46 :: (dig3 t.S.toNat ++ 46 :: (dig3 t.W.toNat ++ 32 :: textB (u :: r)))) rfl (by simp only [List.length_append, List.length_cons]; omega) (j + ((dig3 t.W.toNat).length + 1) + ((dig3 t.S.toNat).length + 1) + ((dig3 t.E.toNat).length + 1))
    have s2 := ref_num hE S (by omega) t.N b c d (t := 1) (by omega) (pre ++ (dig3 t.N.toNat ++ [46])) 46 (dig3 t.S.toNat ++ 46 :: (dig3 t.W.toNat ++ 32 :: textB (u :: r))) rfl (by simp only [List.length_append, List.length_cons, List.length_nil]; omega) (j + ((dig3 t.W.toNat).length + 1) + ((dig3 t.S.toNat).length + 1))
    have s3 := ref_num hSo S (by omega) t.N t.E c d (t := 2) (by omega) (pre ++ (dig3 t.N.toNat ++ [46]) ++ (dig3 t.E.toNat ++ [46])) 46 (dig3 t.W.toNat ++ 32 :: textB (u :: r)) rfl (by simp only [List.length_append, List.length_cons, List.length_nil]; omega) (j + ((dig3 t.W.toNat).length + 1))
    have s4 := ref_num hW S (by omega) t.N t.E t.S d (t := 3) (by omega) (pre ++ (dig3 t.N.toNat ++ [46]) ++ (dig3 t.E.toNat ++ [46]) ++ (dig3 t.S.toNat ++ [46])) 32 (textB (u :: r)) rfl (by simp only [List.length_append, List.length_cons, List.length_nil]; omega) j
    have ih := ref_text (u :: r) (by simp) (fun x hx => hc x (List.mem_cons_of_mem _ hx)) (S ++ [t]) t.N t.E t.S t.W (pre ++ (dig3 t.N.toNat ++ [46]) ++ (dig3 t.E.toNat ++ [46]) ++ (dig3 t.S.toNat ++ [46]) ++ (dig3 t.W.toNat ++ [32])) j (by simp; omega) (by simp only [List.length_append, List.length_cons, List.length_nil]; omega) (by omega)
    rw [show S ++ t :: u :: r = (S ++ [t]) ++ u :: r by simp]
    exact s1.trans (s2.trans (s3.trans (s4.trans ih)))
theorem ref_parse_text {s : List Tile} (hv : validT s = true) {k : Nat} (hk : 100000 < k) : ref01_Parse k (bts (textB s)) = some (s, true) := by
  have hc := valid_okC hv
  have hl := valid_len hv
  have hlen := textB_len s
  unfold ref01_Parse
  rw [show (⟨#[]⟩ : ByteArray) = bts [] from rfl, strEq_bts]
  by_cases h0 : s = []
  · subst h0; rfl
  have h1 := ref_text s h0 hc [] 0 0 0 0 [] k (by simp; omega) (by simp; omega) (by omega)
  have h1 : ref01_Parse.l0 k [] 0 0 0 0 0 0 0 0 (bts (textB s)) = some (.inr (s, 0)) := h1
  rw [if_neg (by rw [decide_eq_true_eq]; exact fun e => h0 (textB_nil e)), h1, Option.bind_some]
  simp only [sumb]
  rw [if_neg (by decide), valid01 s (by omega) (by omega), hv, Option.bind_some, Option.bind_some, if_neg (by decide), text01_eq hl hc (by omega), Option.bind_some, Option.bind_some, strEq_bts, if_neg (by simp)]
theorem ref_parse_any (p : ByteArray) (hp : p.size ≤ 70000) {k : Nat} (hk : 100000 < k) : ∃ r, ref01_Parse k p = some r ∧ (r = ([], false) ∨ (r.2 = true ∧ validT r.1 = true ∧ bts (textB r.1) = p)) := by
  unfold ref01_Parse
  rw [show (⟨#[]⟩ : ByteArray) = bts [] from rfl, ← bts_of p, strEq_bts]
  by_cases h0 : p.data.toList = []
  · rw [h0, if_pos (by decide)]
    exact ⟨_, rfl, .inr ⟨rfl, by decide, rfl⟩⟩
  rw [if_neg (by rw [decide_eq_true_eq]; exact h0), bts_of]
  rcases ref_any p (by omega) (p.size + 1) 0 k [] 0 0 0 0 0 0 0 (by omega) (by simp) (by omega) (by omega) (by omega) with e | ⟨S, t, hS, e⟩
  · have e : ref01_Parse.l0 k [] 0 0 0 0 0 0 0 0 p = _ := e
    rw [e, Option.bind_some]; exact ⟨_, rfl, .inl rfl⟩
  · have e : ref01_Parse.l0 k [] 0 0 0 0 0 0 0 0 p = _ := e
    rw [e, Option.bind_some]
    simp only [sumb]
    cases ht : (t != 0)
    rotate_left
    · exact ⟨_, rfl, .inl rfl⟩
    rw [if_neg (by decide), valid01 S (by omega) (by omega), Option.bind_some, Option.bind_some]
    cases hv : validT S
    · exact ⟨_, rfl, .inl rfl⟩
    rw [if_neg (by decide), text01_eq (valid_len hv) (valid_okC hv) (by omega), Option.bind_some, Option.bind_some]
    have hq : strEq (bts (textB S)) p = decide (textB S = p.data.toList) := strEq_bts (textB S) p.data.toList
    rw [hq]
    by_cases hb : textB S = p.data.toList
    · rw [decide_eq_true hb, if_neg (by decide)]
      exact ⟨_, rfl, .inr ⟨rfl, hv, by rw [hb, bts_of]⟩⟩
    · rw [decide_eq_false hb, if_pos (by decide)]; exact ⟨_, rfl, .inl rfl⟩
end Gp
set_option linter.unusedVariables false
set_option linter.unusedSimpArgs false
namespace Gp
open Go Gw Gq
/-! ### sets and their texts -/
theorem text_ok {s : List Tile} (hv : validT s = true) {k : Nat} (hk : 2000 < k) : tile_Text k s = some (bts (textB s), 0) := by
  have hl := valid_len hv
  unfold tile_Text
  rw [tile_valid s (by omega) (by omega), hv, Option.bind_some, if_neg (by decide), write_eq hl (valid_okC hv) hk]; rfl
theorem law01_TileParses_pure : ∀ (p0 : ByteArray), (p0.size ≤ maxLen) → ∃ k, law01_TileParses k p0 = some true := by
  intro p _
  refine ⟨200000, ?_⟩
  have aw : law01_awake 200000 = some true := awake01_ok 199900
  unfold law01_TileParses
  by_cases hw : (p.size : Int) > 70000
  · rw [if_pos (decide_eq_true hw), aw]; rfl
  rw [if_neg (by rw [decide_eq_true_eq]; exact hw)]
  obtain ⟨r, hr, hr2⟩ := ref_parse_any p (by omega) (k := 200000) (by omega)
  rcases hr2 with rfl | ⟨h1, hv, hp⟩
  · obtain ⟨q, hq, hq2⟩ := parse_any p (by omega) (k := 200000) (by omega)
    rcases hq2 with rfl | ⟨_, hv, hp⟩
    · rw [hq, Option.bind_some, hr, Option.bind_some, if_pos (by decide), if_pos (by decide), aw]; rfl
    · have := ref_parse_text hv (k := 200000) (by omega)
      rw [hp, hr] at this
      injection this with this
      have := congrArg Prod.snd this
      cases this
  · obtain ⟨s, b⟩ := r
    simp only at h1 hv hp
    subst h1 hp
    have h8 := valid_len hv
    rw [parse_text hv (by omega), Option.bind_some, hr, Option.bind_some, if_neg (show ¬ ((!true) = true) by decide), text_ok hv (by omega), Option.bind_some, strEq_bts, if_pos (by simp), sameset_refl s (by omega) 200000 (by omega), Option.bind_some, Option.bind_some, if_pos rfl, aw]; rfl
end Gp
