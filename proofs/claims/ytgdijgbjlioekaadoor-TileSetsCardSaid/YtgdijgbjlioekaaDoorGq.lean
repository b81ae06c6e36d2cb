/- The plain law: what the functions compute answers as the statement says. -/
import Derived.Test.YtgdijgbjlioekaaDoorGp
import Derived.KernelRfl
set_option linter.unusedVariables false
set_option linter.unusedSimpArgs false
namespace Gq
open Go Gw Gp
/-! ### numbers and lists -/
theorem w64_id {n : Int} (h0 : -9223372036854775808 ≤ n) (h1 : n ≤ 9223372036854775807) : w64 n = n := by
  show IntKind.i64.wrap n = n
  have e : IntKind.i64.wrap n = if (true && decide (n % 18446744073709551616 ≥ 9223372036854775808)) = true then n % 18446744073709551616 - 18446744073709551616 else n % 18446744073709551616 := rfl
  rw [e]
  simp only [Bool.true_and, decide_eq_true_eq]
  split <;> omega
theorem rdD_nat {α : Type} (xs : List α) (i : Nat) (d : α) : rdD xs (i : Int) d = xs.getD i d := by simp [rdD]
theorem rdD_get {α : Type} {xs : List α} {i : Nat} (h : i < xs.length) (d : α) : rdD xs (i : Int) d = xs[i] := by
  simp [rdD, List.getD, List.getElem?_eq_getElem h]
def firstS {α β : Type} (g : Nat → α → Option β) : Nat → List α → Option β
  | _, [] => none
  | i, a :: r => match g i a with
    | some b => some b
    | none => firstS g (i + 1) r
def fin {β : Type} : Option β → Sum β Unit
  | some b => .inl b
  | none => .inr ()
theorem scan {α β : Type} {F : Nat → Int → Option (Sum β Unit)} {xs : List α} {g : Nat → α → Option β}
    (hF : ∀ k (i : Nat), i ≤ xs.length → F (k + 1) (i : Int) = if h : i < xs.length then (match g i xs[i] with | some b => some (.inl b) | none => F k ((i + 1 : Nat) : Int)) else some (.inr ())) :
    ∀ (n k i : Nat), i + n = xs.length → n < k → F k (i : Int) = some (fin (firstS g i (xs.drop i)))
  | 0, k, i, hi, hk => by
    obtain ⟨k, rfl⟩ : ∃ m, k = m + 1 := ⟨k - 1, by omega⟩
    have hi : i = xs.length := by omega
    subst hi
    rw [hF k _ (Nat.le_refl _), dif_neg (Nat.lt_irrefl _), List.drop_length]; rfl
  | n + 1, k, i, hi, hk => by
    obtain ⟨k, rfl⟩ : ∃ m, k = m + 1 := ⟨k - 1, by omega⟩
    have hlt : i < xs.length := by omega
    rw [hF k i (by omega), dif_pos hlt, List.drop_eq_getElem_cons hlt, firstS]
    cases hg : g i xs[i] with
    | some b => rfl
    | none => exact scan hF n k (i + 1) (by omega) (by omega)
end Gq
set_option linter.unusedVariables false
set_option linter.unusedSimpArgs false
namespace Gq
theorem loop_to {σ τ : Type} {F : Nat → Int → σ → Option τ} {S : Nat → σ} {n K : Nat} {r : τ} (hs : ∀ k i, K ≤ k → i < n → F (k + 1) (i : Int) (S i) = F k ((i + 1 : Nat) : Int) (S (i + 1))) (he : ∀ k, F (k + 1) (n : Int) (S n) = some r) :
    ∀ k, n + K < k → F k 0 (S 0) = some r := by
  have key : ∀ d i k, i + d = n → d + K < k → F k (i : Int) (S i) = some r := by
    intro d
    induction d with
    | zero =>
      intro i k hi hk
      obtain ⟨k, rfl⟩ : ∃ m, k = m + 1 := ⟨k - 1, by omega⟩
      have : i = n := by omega
      subst this; exact he k
    | succ d ih =>
      intro i k hi hk
      obtain ⟨k, rfl⟩ : ∃ m, k = m + 1 := ⟨k - 1, by omega⟩
      rw [hs k i (by omega) (by omega)]
      exact ih (i + 1) k (by omega) (by omega)
  intro k hk
  exact key n 0 k (by omega) hk
theorem flat_succ {α : Type} (f : Nat → List α) (n : Nat) : (List.range (n + 1)).flatMap f = (List.range n).flatMap f ++ f n := by
  rw [List.range_succ, List.flatMap_append]; simp
end Gq
namespace Gp
open Gw Gq
/-! ### the tiles of a machine -/
def hd (Y q s : Nat) : Int := ((Y + q * Y + s : Nat) : Int)
end Gp
set_option linter.unusedVariables false
set_option linter.unusedSimpArgs false
namespace Gp
open Gw Gq
/-! the reference -/
/-! equal sets -/
theorem set_loop (a : List Tile) (hl : a.length ≤ 1000000) (k : Nat) (hk : a.length < k) : ref01_SameSet.l0 k 0 a a = some (.inr ()) := by
  have := scan (F := fun k i => ref01_SameSet.l0 k i a a) (xs := a) (g := fun _ _ => (none : Option Bool)) (fun k i hi => by
    show ref01_SameSet.l0 (k + 1) i a a = _
    rw [ref01_SameSet.l0]
    by_cases h : i < a.length
    · have h2 : 0 ≤ (i : Int) ∧ (i : Int) < (a.length : Int) := by omega
      rw [dif_pos h, if_pos (by simpa using h), if_pos h2, if_pos h2, if_neg (by simp), w64_id (by omega) (by omega)]; rfl
    · rw [dif_neg h, if_neg (by simpa using h)]) a.length k 0 (by simp) hk
  have hn : ∀ (l : List Tile) (i : Nat), firstS (fun _ _ => (none : Option Bool)) i l = none := by
    intro l
    induction l with
    | nil => intro i; rfl
    | cons x r ih => intro i; exact ih (i + 1)
  simpa [hn, fin] using this
theorem sameset_refl (a : List Tile) (hl : a.length ≤ 1000000) (k : Nat) (hk : a.length < k) : ref01_SameSet k a a = some true := by
  unfold ref01_SameSet
  rw [if_neg (by simp), set_loop a hl k hk]; rfl
end Gp
set_option linter.unusedVariables false
set_option linter.unusedSimpArgs false
namespace Gq
theorem flat_get {α : Type} {f : Nat → List α} : ∀ {n q j : Nat} {t : α}, q < n → (f q)[j]? = some t → ((List.range n).flatMap f)[((List.range q).flatMap f).length + j]? = some t
  | 0, q, j, t, h, _ => by omega
  | n + 1, q, j, t, h, hj => by
    rw [flat_succ, List.getElem?_append]
    by_cases hq : q < n
    · have := flat_get (n := n) hq hj
      rw [if_pos (by by_cases hl : ((List.range q).flatMap f).length + j < ((List.range n).flatMap f).length
                     · exact hl
                     · rw [List.getElem?_eq_none (by omega)] at this; cases this)]
      exact this
    · have : q = n := by omega
      subst this
      rw [if_neg (by omega), show ((List.range q).flatMap f).length + j - ((List.range q).flatMap f).length = j by omega]; exact hj
theorem flat_len {α : Type} {f : Nat → List α} {b : Nat} (hf : ∀ i, (f i).length = b) : ∀ n, ((List.range n).flatMap f).length = n * b
  | 0 => by simp
  | n + 1 => by
    rw [flat_succ, List.length_append, Nat.add_mul, Nat.one_mul, flat_len hf n, hf n]
end Gq
namespace Gp
open Gw Gq
/-! ### where the tiles of a machine lie -/
end Gp
set_option linter.unusedVariables false
set_option linter.unusedSimpArgs false
namespace Gp
open Gw Gq
/-! ### the tile that shows a cell of a step -/
theorem Tile.ext' {a b : Tile} (h1 : a.N = b.N) (h2 : a.E = b.E) (h3 : a.S = b.S) (h4 : a.W = b.W) : a = b := by
  cases a; cases b; simp only at h1 h2 h3 h4; subst h1 h2 h3 h4; rfl
end Gp
set_option linter.unusedVariables false
set_option linter.unusedSimpArgs false
namespace Gq
theorem loop_all {σ ρ τ : Type} {F : Nat → Int → σ → Option (Sum ρ τ)} {S : Nat → σ} {b : Nat → Bool} {n K : Nat} {r : ρ} {e : τ} (hs : ∀ k i, K ≤ k → i < n → F (k + 1) (i : Int) (S i) = if b i = true then F k ((i + 1 : Nat) : Int) (S (i + 1)) else some (.inl r)) (he : ∀ k, F (k + 1) (n : Int) (S n) = some (.inr e)) :
    ∀ k, n + K < k → F k 0 (S 0) = some (if (List.range n).all b = true then .inr e else .inl r) := by
  have key : ∀ d i k, i + d = n → d + K < k → F k (i : Int) (S i) = some (if (List.range' i d).all b = true then .inr e else .inl r) := by
    intro d
    induction d with
    | zero =>
      intro i k hi hk
      obtain ⟨k, rfl⟩ : ∃ m, k = m + 1 := ⟨k - 1, by omega⟩
      have : i = n := by omega
      subst this; rw [he]; rfl
    | succ d ih =>
      intro i k hi hk
      obtain ⟨k, rfl⟩ : ∃ m, k = m + 1 := ⟨k - 1, by omega⟩
      rw [hs k i (by omega) (by omega), List.range'_succ, List.all_cons]
      cases hb : b i
      · rfl
      · rw [if_pos rfl, ih (i + 1) k (by omega) (by omega)]; rfl
  intro k hk
  rw [List.range_eq_range']
  exact key n 0 k (by omega) hk
theorem firstS_ge' {α : Type} {p : α → Bool} : ∀ (xs : List α) (i : Nat), (match firstS (fun i a => if p a = true then none else some (i : Int)) i xs with
    | some x => decide (0 ≤ x)
    | none => false) = !xs.all p
  | [], i => rfl
  | a :: r, i => by
    rw [firstS]
    cases h : p a
    · simp [h]
    · simp only [if_true, List.all_cons, h, Bool.true_and]
      exact firstS_ge' r (i + 1)
end Gq
namespace Gp
open Gw Gq
/-! ### sets of tiles and patterns -/
def inCol (c : Int) : Bool := decide (0 ≤ c ∧ c < 1000)
def colB (t : Tile) : Bool := inCol t.N && inCol t.E && inCol t.S && inCol t.W
theorem idx_col (xs : List Int) (hl : xs.length ≤ 1000000) (k : Nat) (hk : xs.length < k) :
    slices_IndexFunc_int_int_with_tile_colour_1.l0 k 0 xs = some (fin (firstS (fun i a => if inCol a = true then none else some (i : Int)) 0 xs)) := by
  have := scan (F := fun k i => slices_IndexFunc_int_int_with_tile_colour_1.l0 k i xs) (xs := xs) (g := fun i a => if inCol a = true then none else some (i : Int)) (fun k i hi => by
    show slices_IndexFunc_int_int_with_tile_colour_1.l0 (k + 1) i xs = _
    rw [slices_IndexFunc_int_int_with_tile_colour_1.l0]
    by_cases h : i < xs.length
    · have h' : (i : Int) < (xs.length : Int) := by omega
      have h2 : 0 ≤ (i : Int) ∧ (i : Int) < (xs.length : Int) := by omega
      rw [dif_pos h, if_pos (by simpa using h'), if_pos h2, rdD_get h, tile_colour_1, w64_id (by omega) (by omega)]
      by_cases hb : 0 ≤ xs[i] ∧ xs[i] < 1000
      · have h3 : ¬ (xs[i] < 0 ∨ 1000 ≤ xs[i]) := by omega
        simp [inCol, hb]
        intro hh; exact absurd hh h3
      · have h3 : (xs[i] < 0 ∨ 1000 ≤ xs[i]) := by omega
        simp [inCol, hb, h3]
    · have h' : ¬ (i : Int) < (xs.length : Int) := by omega
      rw [dif_neg h, if_neg (by simpa using h')]) xs.length k 0 (by simp) hk
  simpa using this
theorem colour_eq (xs : List Int) (hl : xs.length ≤ 1000000) (k : Nat) (hk : xs.length < k) : tile_colour k xs = some (xs.all inCol) := by
  unfold tile_colour slices_ContainsFunc_int_int_with_tile_colour_1 slices_IndexFunc_int_int_with_tile_colour_1
  rw [idx_col xs hl k hk]
  have := firstS_ge' (p := inCol) xs 0
  cases hf : firstS (fun i a => if inCol a = true then none else some (i : Int)) 0 xs <;> rw [hf] at this <;> cases ha : xs.all inCol <;> rw [ha] at this <;> simp [fin, sumb] at this ⊢
  · exact this
  · exact this
def metS (set : List Tile) (i : Nat) : List (Tile × Bool) := (set.take i).map fun t => (t, true)
theorem mget_met (t : Tile) : ∀ l : List Tile, mget t false (l.map fun t => (t, true)) = decide (t ∈ l)
  | [] => rfl
  | a :: r => by
    simp only [List.map_cons, mget]
    by_cases h : t = a
    · simp [h]
    · rw [if_neg h, mget_met t r]; simp [h]
theorem mput_met (t : Tile) : ∀ l : List Tile, t ∉ l → mput t true (l.map fun t => (t, true)) = (l.map fun t => (t, true)) ++ [(t, true)]
  | [], _ => rfl
  | a :: r, h => by
    simp only [List.mem_cons, not_or] at h
    simp only [List.map_cons, mput, if_neg h.1, mput_met t r h.2, List.cons_append]
def newB (set : List Tile) (i : Nat) : Bool := !decide (set.getD i z_Tile ∈ set.take i) && colB (set.getD i z_Tile)
def validT (set : List Tile) : Bool := decide (set.length ≤ 1000) && (List.range set.length).all (newB set)
theorem tile_valid (set : List Tile) {k : Nat} (hk : 1006 ≤ k) (hl : set.length ≤ 9223372036854775807) : tile_Valid k set = some (validT set) := by
  unfold tile_Valid validT
  by_cases hb : set.length ≤ 1000
  · rw [if_neg (by simp; omega)]
    have := loop_all (F := fun k i (m : List (Tile × Bool)) => tile_Valid.l0 k m i set) (S := metS set) (b := newB set) (n := set.length) (K := 5) (r := false) (e := ()) (fun k i hk hi => by
      show tile_Valid.l0 (k + 1) (metS set i) i set = if newB set i = true then tile_Valid.l0 k (metS set (i + 1)) ((i + 1 : Nat) : Int) set else _
      rw [tile_Valid.l0, if_pos (by simpa using hi), if_pos (by omega), rdD_nat, metS, mget_met]
      have ht : set.getD i z_Tile = set[i] := by simp [List.getElem?_eq_getElem hi]
      unfold newB
      by_cases hm : set.getD i z_Tile ∈ set.take i
      · rw [if_pos (by simpa using hm), show decide (set.getD i z_Tile ∈ set.take i) = true from decide_eq_true hm]; rfl
      · rw [if_neg (by simpa using hm), colour_eq _ (by simp) k (by simp; omega), Option.bind_some, Option.bind_some]
        have hc : ([(set.getD i z_Tile).N, (set.getD i z_Tile).E, (set.getD i z_Tile).S, (set.getD i z_Tile).W].all inCol) = colB (set.getD i z_Tile) := by simp [colB, Bool.and_assoc]
        rw [hc]
        cases hcb : colB (set.getD i z_Tile)
        · simp
        · rw [mput_met _ _ hm, w64_id (by omega) (by omega)]
          simp only [hm, Bool.not_true, Bool.false_eq_true, if_false, decide_false, Bool.not_false, Bool.and_self, if_true]
          unfold metS
          rw [List.take_add_one, List.map_append, List.getElem?_eq_getElem hi, ht]; rfl) (fun k => by
      show tile_Valid.l0 (k + 1) (metS set set.length) set.length set = _
      rw [tile_Valid.l0, if_neg (by simp)]) k (by omega)
    have h0 : tile_Valid.l0 k [] 0 set = some (if (List.range set.length).all (newB set) = true then .inr () else .inl false) := this
    rw [h0]
    cases (List.range set.length).all (newB set) <;> simp [sumb, hb]
  · rw [if_pos (by simp; omega)]; simp [hb]
def formB (p : Pattern) : Bool := decide (1 ≤ p.Width ∧ 1 ≤ p.Height ∧ p.Width ≤ 40000 ∧ p.Height ≤ 40000 ∧ p.Width * p.Height ≤ 40000 ∧ (p.Cells.length : Int) = p.Width * p.Height)
def inSet (n : Nat) (c : Int) : Bool := decide (0 ≤ c ∧ c < (n : Int))
def ofB (set : List Tile) (p : Pattern) : Bool := validT set && formB p && p.Cells.all (inSet set.length)
structure PForm (set : List Tile) (p : Pattern) (W H : Nat) : Prop where
  w : p.Width = W
  h : p.Height = H
  dW : 1 ≤ W ∧ W ≤ 40000
  dH : 1 ≤ H ∧ H ≤ 40000
  wh : H * W ≤ 40000
  len : p.Cells.length = H * W
  cel : ∀ j, j < H * W → 0 ≤ p.Cells.getD j 0 ∧ p.Cells.getD j 0 < (set.length : Int)
theorem place_lt {W H x y : Nat} (hx : x < W) (hy : y < H) : y * W + x < H * W := by
  have := Nat.mul_le_mul_right W (show y + 1 ≤ H by omega)
  rw [Nat.succ_mul] at this; omega
end Gp
set_option linter.unusedVariables false
set_option linter.unusedSimpArgs false
namespace Gp
open Gw Gq
/-! ### the pictures are patterns of the tiles -/
theorem PForm.of {set : List Tile} {p : Pattern} {W H : Nat} (f : PForm set p W H) (hv : validT set = true) : ofB set p = true := by
  unfold ofB formB
  have h1 := f.dW; have h2 := f.dH; have h3 := f.wh
  have e : p.Width * p.Height = ((H * W : Nat) : Int) := by rw [f.w, f.h, Int.natCast_mul, Int.mul_comm]
  rw [hv, e, f.w, f.h, f.len]
  simp only [Bool.true_and, Bool.and_eq_true, decide_eq_true_eq, List.all_eq_true]
  refine ⟨⟨by omega, by omega, by omega, by omega, by omega, trivial⟩, fun a ha => ?_⟩
  obtain ⟨j, hj, he⟩ := List.mem_iff_getElem.1 ha
  have := f.cel j (by rw [← f.len]; exact hj)
  rw [show p.Cells.getD j 0 = p.Cells[j] from by simp [List.getElem?_eq_getElem hj], he] at this
  unfold inSet; exact decide_eq_true this
end Gp
set_option linter.unusedVariables false
set_option linter.unusedSimpArgs false
namespace Gq
end Gq
namespace Gp
open Gw Gq
/-! ### the patterns of the statements' own reference -/
end Gp
set_option linter.unusedVariables false
set_option linter.unusedSimpArgs false
namespace Gp
open Gw Gq
end Gp
set_option linter.unusedVariables false
set_option linter.unusedSimpArgs false
namespace Gp
open Gw Gq
/-! ### a torus, repeated -/
end Gp
set_option linter.unusedVariables false
set_option linter.unusedSimpArgs false
namespace Gp
open Gw Gq
/-! ### the first layer's reference -/
theorem awake01_ok (k : Nat) : law01_awake (k + 100) = some true := by kernel_rfl
theorem colour01 (c : Int) : ref01_colour c = some (inCol c) := by
  unfold ref01_colour inCol
  by_cases h : 0 ≤ c ∧ c < 1000
  · simp [h]
  · rw [decide_eq_false h]
    congr 1
    cases h1 : decide (c ≥ 0)
    · rfl
    · have : ¬ c < 1000 := fun h2 => h ⟨by simpa using h1, h2⟩
      simp [this]
theorem index01 {set : List Tile} (hl : set.length ≤ 1000000) (t : Tile) {k : Nat} (hk : set.length < k) : ∃ r : Int, ref01_Index k set t = some r ∧ decide (r ≥ 0) = decide (t ∈ set) := by
  have := scan (F := fun k i => ref01_Index.l0 k i set t) (xs := set) (g := fun i a => if a = t then some (i : Int) else none) (fun k i hi => by
    show ref01_Index.l0 (k + 1) i set t = _
    rw [ref01_Index.l0]
    by_cases h : i < set.length
    · have h2 : 0 ≤ (i : Int) ∧ (i : Int) < (set.length : Int) := by omega
      rw [dif_pos h, if_pos (by simpa using h), if_pos h2, rdD_get h, w64_id (by omega) (by omega)]
      by_cases hb : set[i] = t
      · subst hb; simp
      · have : ((set[i].N == t.N) && ((set[i].E == t.E) && ((set[i].S == t.S) && (set[i].W == t.W)))) = false := by
          cases hc : ((set[i].N == t.N) && ((set[i].E == t.E) && ((set[i].S == t.S) && (set[i].W == t.W))))
          · rfl
          · simp only [Bool.and_eq_true, beq_iff_eq] at hc
            exact absurd (Tile.ext' hc.1 hc.2.1 hc.2.2.1 hc.2.2.2) hb
        rw [this, if_neg hb]; rfl
    · rw [dif_neg h, if_neg (by simpa using h)]) set.length k 0 (by simp) hk
  have h0 : ref01_Index.l0 k 0 set t = some (fin (firstS (fun i a => if a = t then some (i : Int) else none) 0 (set.drop 0))) := this
  rw [List.drop_zero] at h0
  have key : ∀ (l : List Tile) (i : Nat), match firstS (fun i a => if a = t then some (i : Int) else none) i l with
      | some x => decide (x ≥ 0) = decide (t ∈ l)
      | none => decide (t ∈ l) = false := by
    intro l
    induction l with
    | nil => intro i; simp [firstS]
    | cons a r ih =>
      intro i
      rw [firstS]
      by_cases ha : a = t
      · subst ha; simp
      · have hne : ¬ t = a := fun e => ha e.symm
        rw [if_neg ha]
        have := ih (i + 1)
        cases hf : firstS (fun i a => if a = t then some (i : Int) else none) (i + 1) r with
        | none => rw [hf] at this; simp only [List.mem_cons, hne, false_or]; exact this
        | some x => rw [hf] at this; simp only [List.mem_cons, hne, false_or]; exact this
  unfold ref01_Index
  rw [h0]
  have hk2 := key set 0
  cases hf : firstS (fun i a => if a = t then some (i : Int) else none) 0 set with
  | none => rw [hf] at hk2; exact ⟨-1, rfl, by rw [hk2]; rfl⟩
  | some x => rw [hf] at hk2; exact ⟨x, rfl, hk2⟩
theorem valid01 (set : List Tile) {k : Nat} (hk : 2002 < k) (hl : set.length ≤ 9223372036854775807) : ref01_Valid k set = some (validT set) := by
  unfold ref01_Valid validT
  by_cases hb : set.length ≤ 1000
  · rw [if_neg (by simp; omega)]
    have := loop_all (F := fun k i (_ : Unit) => ref01_Valid.l0 k i set) (S := fun _ => ()) (b := newB set) (n := set.length) (K := 1001) (r := false) (e := ()) (fun k i hk hi => by
      show ref01_Valid.l0 (k + 1) i set = if newB set i = true then ref01_Valid.l0 k ((i + 1 : Nat) : Int) set else _
      have hcut : cut set (0 : Int) (i : Int) = set.take i := by unfold cut; simp
      obtain ⟨r, hr, hd⟩ := index01 (set := set.take i) (by rw [List.length_take]; omega) (set.getD i z_Tile) (k := k) (by rw [List.length_take]; omega)
      rw [ref01_Valid.l0, if_pos (by simpa using hi), if_pos (by omega)]
      simp only [rdD_nat, colour01, Option.bind_some, hcut]
      rw [if_pos (⟨by omega, by omega, by omega⟩ : 0 ≤ (0 : Int) ∧ (0 : Int) ≤ (i : Int) ∧ (i : Int) ≤ (set.length : Int)), hr, w64_id (by omega) (by omega)]
      simp only [Option.bind_some, hd]
      unfold newB colB
      cases inCol (set.getD i z_Tile).N
      · simp
      · cases inCol (set.getD i z_Tile).E
        · simp
        · cases inCol (set.getD i z_Tile).S
          · simp
          · cases inCol (set.getD i z_Tile).W
            · simp
            · cases decide (set.getD i z_Tile ∈ set.take i) <;> simp) (fun k => by
      show ref01_Valid.l0 (k + 1) set.length set = _
      rw [ref01_Valid.l0, if_neg (by simp)]) k (by omega)
    have h0 : ref01_Valid.l0 k 0 set = some (if (List.range set.length).all (newB set) = true then .inr () else .inl false) := this
    rw [h0]
    cases (List.range set.length).all (newB set) <;> simp [sumb, hb]
  · rw [if_pos (by simp; omega)]; simp [hb]
end Gp
set_option linter.unusedVariables false
set_option linter.unusedSimpArgs false
namespace Gp
open Gw Gq
/-! ### grids: lists of rows -/
def grid (w h : Nat) (g : Nat → Nat → Int) : List Int := (List.range h).flatMap fun y => (List.range w).map (g y)
theorem grid_len (w h : Nat) (g : Nat → Nat → Int) : (grid w h g).length = h * w := flat_len (f := fun y => (List.range w).map (g y)) (b := w) (fun y => by simp) h
theorem grid_get (w h : Nat) (g : Nat → Nat → Int) {x y : Nat} (hx : x < w) (hy : y < h) : (grid w h g).getD (y * w + x) 0 = g y x := by
  have := flat_get (f := fun y => (List.range w).map (g y)) (n := h) (q := y) (j := x) (t := g y x) hy (by simp [hx])
  have e : ((List.range y).flatMap fun y => (List.range w).map (g y)).length = y * w := grid_len w y g
  rw [e] at this
  unfold grid
  rw [List.getD_eq_getElem?_getD, this]; rfl
/-! ### stores into a list -/
def sets (l : List Int) (q : List (Nat × Int)) : List Int := q.foldl (fun l p => l.set p.1 p.2) l
/-! ### patterns that have the form of one -/
structure GForm (p : Pattern) (W H : Nat) : Prop where
  w : p.Width = W
  h : p.Height = H
  dW : 1 ≤ W ∧ W ≤ 40000
  dH : 1 ≤ H ∧ H ≤ 40000
  wh : H * W ≤ 40000
  len : p.Cells.length = H * W
theorem GForm.form {p : Pattern} {W H : Nat} (f : GForm p W H) : formB p = true := by
  have h1 := f.dW; have h2 := f.dH; have h3 := f.wh
  have e : p.Width * p.Height = ((H * W : Nat) : Int) := by rw [f.w, f.h, Int.natCast_mul, Int.mul_comm]
  unfold formB; rw [e, f.w, f.h, f.len]; exact decide_eq_true ⟨by omega, by omega, by omega, by omega, by omega, rfl⟩
theorem PForm.g {set : List Tile} {p : Pattern} {W H : Nat} (f : PForm set p W H) : GForm p W H := ⟨f.w, f.h, f.dW, f.dH, f.wh, f.len⟩
def cellG (p : Pattern) (W y x : Nat) : Int := p.Cells.getD (y * W + x) 0
theorem GForm.at {p : Pattern} {W H : Nat} (f : GForm p W H) {x y : Nat} (hx : x < W) (hy : y < H) : w64 (w64 ((y : Int) * (W : Int)) + (x : Int)) = ((y * W + x : Nat) : Int) ∧ (0 ≤ ((y * W + x : Nat) : Int) ∧ ((y * W + x : Nat) : Int) < (p.Cells.length : Int)) := by
  have hwh := f.wh
  have hp := place_lt hx hy
  refine ⟨?_, by omega, by rw [f.len]; omega⟩
  rw [← Int.natCast_mul, w64_id (n := ((y * W : Nat) : Int)) (by omega) (by omega), w64_id (by omega) (by omega)]; rfl
theorem succ64 {x : Nat} (h : x ≤ 1000000) : w64 ((x : Int) + 1) = ((x + 1 : Nat) : Int) := by rw [w64_id (by omega) (by omega)]; rfl
/-! ### the changed patterns -/
end Gp
set_option linter.unusedVariables false
set_option linter.unusedSimpArgs false
namespace Gp
open Gw Gq
/-! ### cuts -/
/-! ### patterns, repeated -/
/-! ### what is equal -/
end Gp
set_option linter.unusedVariables false
set_option linter.unusedSimpArgs false
namespace Gp
open Gw Gq
/-! ### changed sets -/
def mirT (t : Tile) : Tile := ⟨t.N, t.W, t.S, t.E⟩
def upT (t : Tile) : Tile := ⟨t.S, t.E, t.N, t.W⟩
def turnT (t : Tile) : Tile := ⟨t.W, t.N, t.E, t.S⟩
theorem take_succ_map {f : Tile → Tile} {s : List Tile} {i : Nat} (h : i < s.length) : (s.map f).take (i + 1) = (s.map f).take i ++ [f (s.getD i z_Tile)] := by
  rw [List.take_add_one, List.getElem?_eq_getElem (by simpa using h)]
  simp [List.getElem?_eq_getElem h]
theorem chset0 {s : List Tile} (hv : validT s = true) {k : Nat} (hk : 1006 ≤ k) : tile_Mirror k s = some (s.map mirT, 0) := by
  have hl : s.length ≤ 1000 := by unfold validT at hv; simp only [Bool.and_eq_true, decide_eq_true_eq] at hv; exact hv.1
  have := loop_to (F := fun k i l => tile_changed_at0.l0 k l i s) (S := fun i => (s.map mirT).take i) (n := s.length) (K := 0) (r := s.map mirT) (fun k i _ hi => by
    show tile_changed_at0.l0 (k + 1) ((s.map mirT).take i) i s = tile_changed_at0.l0 k ((s.map mirT).take (i + 1)) ((i + 1 : Nat) : Int) s
    rw [tile_changed_at0.l0, if_pos (by simpa using hi), if_pos (by omega), tile_changes, Option.bind_some, tile_changes_1, Option.bind_some, if_pos (by simp; omega), succ64 (by omega), take_succ_map hi, rdD_nat]; rfl) (fun k => by
    show tile_changed_at0.l0 (k + 1) ((s.map mirT).take s.length) s.length s = _
    rw [tile_changed_at0.l0, if_neg (by simp), ← List.length_map (f := mirT), List.take_length]) k (by omega)
  have this : tile_changed_at0.l0 k [] 0 s = _ := this
  unfold tile_Mirror tile_changed_at0
  rw [tile_valid s hk (by omega), hv, Option.bind_some, if_neg (by simp), this]; rfl
theorem chset1 {s : List Tile} (hv : validT s = true) {k : Nat} (hk : 1006 ≤ k) : tile_Upturn k s = some (s.map upT, 0) := by
  have hl : s.length ≤ 1000 := by unfold validT at hv; simp only [Bool.and_eq_true, decide_eq_true_eq] at hv; exact hv.1
  have := loop_to (F := fun k i l => tile_changed_at1.l0 k l i s) (S := fun i => (s.map upT).take i) (n := s.length) (K := 0) (r := s.map upT) (fun k i _ hi => by
    show tile_changed_at1.l0 (k + 1) ((s.map upT).take i) i s = tile_changed_at1.l0 k ((s.map upT).take (i + 1)) ((i + 1 : Nat) : Int) s
    rw [tile_changed_at1.l0, if_pos (by simpa using hi), if_pos (by omega), tile_changes, Option.bind_some, tile_changes_3, Option.bind_some, if_pos (by simp; omega), succ64 (by omega), take_succ_map hi, rdD_nat]; rfl) (fun k => by
    show tile_changed_at1.l0 (k + 1) ((s.map upT).take s.length) s.length s = _
    rw [tile_changed_at1.l0, if_neg (by simp), ← List.length_map (f := upT), List.take_length]) k (by omega)
  have this : tile_changed_at1.l0 k [] 0 s = _ := this
  unfold tile_Upturn tile_changed_at1
  rw [tile_valid s hk (by omega), hv, Option.bind_some, if_neg (by simp), this]; rfl
theorem chset2 {s : List Tile} (hv : validT s = true) {k : Nat} (hk : 1006 ≤ k) : tile_Turn k s = some (s.map turnT, 0) := by
  have hl : s.length ≤ 1000 := by unfold validT at hv; simp only [Bool.and_eq_true, decide_eq_true_eq] at hv; exact hv.1
  have := loop_to (F := fun k i l => tile_changed_at2.l0 k l i s) (S := fun i => (s.map turnT).take i) (n := s.length) (K := 0) (r := s.map turnT) (fun k i _ hi => by
    show tile_changed_at2.l0 (k + 1) ((s.map turnT).take i) i s = tile_changed_at2.l0 k ((s.map turnT).take (i + 1)) ((i + 1 : Nat) : Int) s
    rw [tile_changed_at2.l0, if_pos (by simpa using hi), if_pos (by omega), tile_changes, Option.bind_some, tile_changes_5, Option.bind_some, if_pos (by simp; omega), succ64 (by omega), take_succ_map hi, rdD_nat]; rfl) (fun k => by
    show tile_changed_at2.l0 (k + 1) ((s.map turnT).take s.length) s.length s = _
    rw [tile_changed_at2.l0, if_neg (by simp), ← List.length_map (f := turnT), List.take_length]) k (by omega)
  have this : tile_changed_at2.l0 k [] 0 s = _ := this
  unfold tile_Turn tile_changed_at2
  rw [tile_valid s hk (by omega), hv, Option.bind_some, if_neg (by simp), this]; rfl
structure Chg (f : Tile → Tile) : Prop where
  inj : ∀ a b, f a = f b → a = b
  col : ∀ t, colB (f t) = colB t
theorem getD_map (f : Tile → Tile) {s : List Tile} {i : Nat} (h : i < s.length) : (s.map f).getD i z_Tile = f (s.getD i z_Tile) := by simp [List.getElem?_eq_getElem h]
theorem Chg.valid {f : Tile → Tile} (c : Chg f) {s : List Tile} (hv : validT s = true) : validT (s.map f) = true := by
  unfold validT at hv ⊢
  simp only [Bool.and_eq_true, decide_eq_true_eq, List.all_eq_true, List.mem_range, List.length_map] at hv ⊢
  refine ⟨hv.1, fun i hi => ?_⟩
  have := hv.2 i hi
  unfold newB at this ⊢
  rw [getD_map f hi, ← List.map_take, c.col]
  simp only [Bool.and_eq_true, Bool.not_eq_true', decide_eq_false_iff_not] at this ⊢
  refine ⟨fun hm => this.1 ?_, this.2⟩
  obtain ⟨a, ha, he⟩ := List.mem_map.1 hm
  rw [← c.inj _ _ he]; exact ha
/-! ### how the tiles of a grid meet -/
def JP (W H : Nat) (round : Bool) (T : Nat → Nat → Tile) : Prop :=
  (∀ y x, y < H → x < W → (x + 1 < W ∨ round = true) → (T y x).E = (T y ((x + 1) % W)).W) ∧ (∀ y x, y < H → x < W → (y + 1 < H ∨ round = true) → (T y x).N = (T ((y + 1) % H) x).S)
theorem JP.congr {W H : Nat} {round : Bool} {T T' : Nat → Nat → Tile} (he : ∀ y x, y < H → x < W → T y x = T' y x) (h : JP W H round T) : JP W H round T' := by
  refine ⟨fun y x hy hx hr => ?_, fun y x hy hx hr => ?_⟩
  · rw [← he y x hy hx, ← he y _ hy (Nat.mod_lt _ (by omega))]; exact h.1 y x hy hx hr
  · rw [← he y x hy hx, ← he _ x (Nat.mod_lt _ (by omega)) hx]; exact h.2 y x hy hx hr
def GP (W H : Nat) (c : Nat → Nat → Int) : Pattern := ⟨W, H, grid W H c⟩
def TT (s : List Tile) (c : Nat → Nat → Int) (y x : Nat) : Tile := s.getD (c y x).toNat z_Tile
structure GOK (s : List Tile) (W H : Nat) (c : Nat → Nat → Int) (whole : Bool) : Prop where
  valid : validT s = true
  dW : 1 ≤ W ∧ W ≤ 40000
  dH : 1 ≤ H ∧ H ≤ 40000
  wh : H * W ≤ 40000
  cel : ∀ y x, y < H → x < W → 0 ≤ c y x ∧ c y x < (s.length : Int)
  fits : JP W H false (TT s c)
  round : whole = true ↔ JP W H true (TT s c)
theorem valid_len {s : List Tile} (hv : validT s = true) : s.length ≤ 1000 := by unfold validT at hv; simp only [Bool.and_eq_true, decide_eq_true_eq] at hv; exact hv.1
theorem GOK.congr {s : List Tile} {W H : Nat} {c c' : Nat → Nat → Int} {whole : Bool} (g : GOK s W H c whole) (he : ∀ y x, y < H → x < W → c y x = c' y x) : GOK s W H c' whole := by
  have ht : ∀ y x, y < H → x < W → TT s c y x = TT s c' y x := fun y x hy hx => by unfold TT; rw [he y x hy hx]
  exact ⟨g.valid, g.dW, g.dH, g.wh, fun y x hy hx => by rw [← he y x hy hx]; exact g.cel y x hy hx, g.fits.congr ht, g.round.trans ⟨fun h => h.congr ht, fun h => h.congr (fun y x hy hx => (ht y x hy hx).symm)⟩⟩
/-! mirrored -/
theorem GP.g {W H : Nat} {c : Nat → Nat → Int} (dW : 1 ≤ W ∧ W ≤ 40000) (dH : 1 ≤ H ∧ H ≤ 40000) (wh : H * W ≤ 40000) : GForm (GP W H c) W H := ⟨rfl, rfl, dW, dH, wh, grid_len W H c⟩
theorem GP.cell {W H : Nat} (c : Nat → Nat → Int) {y x : Nat} (hy : y < H) (hx : x < W) : cellG (GP W H c) W y x = c y x := grid_get W H c hx hy
end Gp
set_option linter.unusedVariables false
set_option linter.unusedSimpArgs false
namespace Gq
open Go Gw
/-! ### bytes and numbers -/
def bts (l : List UInt8) : ByteArray := ⟨l.toArray⟩
theorem bts_data (l : List UInt8) : (bts l).data.toList = l := rfl
theorem bts_size (l : List UInt8) : (bts l).size = l.length := by simp [bts, ByteArray.size]
theorem bts_app (a b : List UInt8) : bts a ++ bts b = bts (a ++ b) := by
  apply ByteArray.ext
  simp [bts, ByteArray.data_append]
theorem strEq_bts (a b : List UInt8) : strEq (bts a) (bts b) = decide (a = b) := by
  unfold strEq; rw [bts_data, bts_data, Bool.eq_iff_iff, decide_eq_true_eq, beq_iff_eq]
theorem wrap8 {x : Int} (h0 : 0 ≤ x) (h1 : x < 256) : IntKind.wrap .u8 x = x := by
  have e : IntKind.wrap .u8 x = if (false && decide (x % 256 ≥ 128)) = true then x % 256 - 256 else x % 256 := rfl
  rw [e]
  simp only [Bool.false_and]
  rw [if_neg (by decide)]
  omega
def dig3 (n : Nat) : List UInt8 := if n < 10 then [UInt8.ofNat (48 + n)] else if n < 100 then [UInt8.ofNat (48 + n / 10), UInt8.ofNat (48 + n % 10)] else [UInt8.ofNat (48 + n / 10 / 10), UInt8.ofNat (48 + n / 10 % 10), UInt8.ofNat (48 + n % 10)]
theorem dec3 {n : Nat} (h : n < 1000) : Lib.decDigits n = dig3 n := by
  unfold dig3
  rw [Lib.decDigits]
  by_cases h1 : n < 10
  · rw [dif_pos h1, if_pos h1]
  · rw [dif_neg h1, if_neg h1, Lib.decDigits]
    by_cases h2 : n < 100
    · rw [dif_pos (by omega), if_pos h2]; rfl
    · rw [dif_neg (by omega), if_neg h2, Lib.decDigits, dif_pos (by omega)]; rfl
theorem itoa3 {v : Int} (h0 : 0 ≤ v) (h1 : v < 1000) : Lib.itoa v = dig3 v.toNat := by
  unfold Lib.itoa
  rw [if_neg (by omega), dec3 (by omega)]
theorem itoaN3 {v : Int} (h0 : 0 ≤ v) (h1 : v < 1000) : itoaN v = some (bts (dig3 v.toNat)) := by
  unfold itoaN
  rw [if_pos (by omega), itoa3 h0 h1]; rfl
theorem dig3_len (n : Nat) : 1 ≤ (dig3 n).length ∧ (dig3 n).length ≤ 3 := by
  unfold dig3
  split
  · simp
  · split <;> simp
theorem ofNat_toNat {x : Nat} (h : x < 256) : (UInt8.ofNat x).toNat = x := by rw [UInt8.toNat_ofNat']; omega
def isD (b : UInt8) : Prop := 48 ≤ b.toNat ∧ b.toNat ≤ 57
theorem dig3_digit {n : Nat} (h : n < 1000) : ∀ b ∈ dig3 n, isD b := by
  have key : ∀ x, x < 10 → isD (UInt8.ofNat (48 + x)) := fun x hx => by unfold isD; rw [ofNat_toNat (by omega)]; omega
  unfold dig3
  split
  · intro b hb; rw [List.mem_singleton] at hb; subst hb; exact key _ (by omega)
  · split
    · intro b hb
      simp only [List.mem_cons, List.mem_nil_iff, or_false] at hb
      rcases hb with rfl | rfl
      · exact key _ (by omega)
      · exact key _ (by omega)
    · intro b hb
      simp only [List.mem_cons, List.mem_nil_iff, or_false] at hb
      rcases hb with rfl | rfl | rfl
      · exact key _ (by omega)
      · exact key _ (by omega)
      · exact key _ (by omega)
end Gq
namespace Gp
open Go Gw Gq
def tileB (t : Tile) : List UInt8 := dig3 t.N.toNat ++ 46 :: (dig3 t.E.toNat ++ 46 :: (dig3 t.S.toNat ++ 46 :: dig3 t.W.toNat))
def textB : List Tile → List UInt8
  | [] => []
  | [t] => tileB t
  | t :: u :: r => tileB t ++ 32 :: textB (u :: r)
theorem tileB_len (t : Tile) : 7 ≤ (tileB t).length ∧ (tileB t).length ≤ 15 := by
  have h1 := dig3_len t.N.toNat
  have h2 := dig3_len t.E.toNat
  have h3 := dig3_len t.S.toNat
  have h4 := dig3_len t.W.toNat
  unfold tileB
  simp only [List.length_append, List.length_cons]
  omega
theorem textB_len : ∀ s : List Tile, (textB s).length ≤ 16 * s.length - 1
  | [] => Nat.le_refl _
  | [t] => by have := tileB_len t; show (tileB t).length ≤ 16 * 1 - 1; omega
  | t :: u :: r => by
    have := tileB_len t
    have ih := textB_len (u :: r)
    show (tileB t ++ 32 :: textB (u :: r)).length ≤ _
    simp only [List.length_append, List.length_cons] at ih ⊢
    omega
theorem textB_nil {s : List Tile} (h : textB s = []) : s = [] := by
  match s, h with
  | [], _ => rfl
  | [t], h => have := tileB_len t; rw [show textB [t] = tileB t from rfl] at h; rw [h] at this; simp at this
  | t :: u :: r, h => have := congrArg List.length h; rw [show textB (t :: u :: r) = tileB t ++ 32 :: textB (u :: r) from rfl] at this; simp at this
theorem join_cons2 (x y : List UInt8) (r : List (List UInt8)) (sep : List UInt8) : Lib.join (x :: y :: r) sep = x ++ (sep ++ Lib.join (y :: r) sep) := by
  unfold Lib.join
  simp [List.intercalate, List.intersperse]
theorem join_text : ∀ s : List Tile, Lib.join (s.map tileB) [32] = textB s
  | [] => rfl
  | [t] => Lib.join_one _ _
  | t :: u :: r => by
    rw [List.map_cons, List.map_cons, join_cons2, ← List.map_cons, join_text (u :: r)]; rfl
theorem join_tile (a b c d : List UInt8) : Lib.join [a, b, c, d] [46] = a ++ 46 :: (b ++ 46 :: (c ++ 46 :: d)) := by
  rw [join_cons2, join_cons2, join_cons2, Lib.join_one]; rfl
theorem joinP_bts {xs : List ByteArray} {sep : List UInt8} (h : (Lib.join (xs.map (·.data.toList)) sep).length ≤ 140737488355328) (hx : xs.length ≤ 140737488355328) : joinP xs (bts sep) = some (bts (Lib.join (xs.map (·.data.toList)) sep)) := by
  unfold joinP
  rw [bts_data, if_pos ⟨h, hx⟩]; rfl
def okC (t : Tile) : Prop := (0 ≤ t.N ∧ t.N < 1000) ∧ (0 ≤ t.E ∧ t.E < 1000) ∧ (0 ≤ t.S ∧ t.S < 1000) ∧ (0 ≤ t.W ∧ t.W < 1000)
theorem valid_okC {s : List Tile} (hv : validT s = true) : ∀ t ∈ s, okC t := by
  intro t ht
  unfold validT at hv
  simp only [Bool.and_eq_true, decide_eq_true_eq, List.all_eq_true, List.mem_range] at hv
  obtain ⟨i, hi, rfl⟩ := List.getElem_of_mem ht
  have := hv.2 i hi
  unfold newB colB inCol at this
  simp only [Bool.and_eq_true, decide_eq_true_eq, List.getD_eq_getElem?_getD, List.getElem?_eq_getElem hi, Option.getD_some] at this
  exact ⟨this.2.1.1.1, this.2.1.1.2, this.2.1.2, this.2.2⟩
theorem write_l1 (s : List Tile) {i : Nat} (hi : i < s.length) (hc : okC s[i]) (k : Nat) : tile_write.l1 (k + 5) [] 0 s i = some [bts (dig3 s[i].N.toNat), bts (dig3 s[i].E.toNat), bts (dig3 s[i].S.toNat), bts (dig3 s[i].W.toNat)] := by
  obtain ⟨hN, hE, hS, hW⟩ := hc
  have h1 : w64 (0 + 1) = 1 := by rw [w64_id (by omega) (by omega)]; rfl
  have h2 : w64 (1 + 1) = 2 := by rw [w64_id (by omega) (by omega)]; rfl
  have h3 : w64 (2 + 1) = 3 := by rw [w64_id (by omega) (by omega)]; rfl
  have h4 : w64 (3 + 1) = 4 := by rw [w64_id (by omega) (by omega)]; rfl
  rw [tile_write.l1, if_pos (by decide), if_pos (by decide), rdD_get hi, itoaN3 hN.1 hN.2, Option.bind_some, if_pos (by simp), h1]
  rw [tile_write.l1, if_pos (by decide), if_neg (by decide), if_pos (by decide), rdD_get hi, itoaN3 hE.1 hE.2, Option.bind_some, if_pos (by simp), h2]
  rw [tile_write.l1, if_pos (by decide), if_neg (by decide), if_neg (by decide), if_pos (by decide), rdD_get hi, itoaN3 hS.1 hS.2, Option.bind_some, if_pos (by simp), h3]
  rw [tile_write.l1, if_pos (by decide), if_neg (by decide), if_neg (by decide), if_neg (by decide), if_pos (by decide), rdD_get hi, itoaN3 hW.1 hW.2, Option.bind_some, if_pos (by simp), h4]
  rw [tile_write.l1, if_neg (by decide)]; rfl
theorem write_eq {s : List Tile} (hl : s.length ≤ 1000) (hc : ∀ t ∈ s, okC t) {k : Nat} (hk : 2000 < k) : tile_write k s = some (bts (textB s)) := by
  have := loop_to (F := fun k i l => tile_write.l0 k l i s) (S := fun i => (s.map fun t => bts (tileB t)).take i) (n := s.length) (K := 5) (r := s.map fun t => bts (tileB t)) (fun k i hk hi => by
    show tile_write.l0 (k + 1) ((s.map fun t => bts (tileB t)).take i) i s = tile_write.l0 k ((s.map fun t => bts (tileB t)).take (i + 1)) ((i + 1 : Nat) : Int) s
    obtain ⟨j, rfl⟩ : ∃ j, k = j + 5 := ⟨k - 5, by omega⟩
    have ht := tileB_len s[i]
    rw [tile_write.l0, if_pos (by simpa using hi), if_pos (by omega), write_l1 s hi (hc _ (List.getElem_mem hi)), Option.bind_some, show (⟨#[46]⟩ : ByteArray) = bts [46] from rfl, joinP_bts (by
      simp only [List.map_cons, List.map_nil, bts_data, join_tile]
      show (tileB s[i]).length ≤ _
      omega) (by simp), Option.bind_some, if_pos (by simp; omega), succ64 (by omega)]
    congr 1
    simp only [List.map_cons, List.map_nil, bts_data, join_tile]
    rw [List.take_add_one, List.getElem?_eq_getElem (by simpa using hi)]
    simp only [List.getElem_map, Option.toList_some]; rfl) (fun k => by
    show tile_write.l0 (k + 1) ((s.map fun t => bts (tileB t)).take s.length) s.length s = _
    rw [tile_write.l0, if_neg (by simp), List.take_of_length_le (by simp)]) k (by omega)
  have this : tile_write.l0 k [] 0 s = _ := this
  have hd : (s.map fun t => bts (tileB t)).map (fun b : ByteArray => b.data.toList) = s.map tileB := by
    rw [List.map_map]; rfl
  have hlen := textB_len s
  unfold tile_write
  rw [this, Option.bind_some, show (⟨#[32]⟩ : ByteArray) = bts [32] from rfl, joinP_bts (by rw [hd, join_text]; omega) (by simp; omega), hd, join_text]; rfl
/-! ### the reference's text -/
theorem digits_last {v : Nat} : strOfNums [IntKind.wrap .u8 (w64 (48 + Int.tmod (v : Int) 10))] = bts [UInt8.ofNat (48 + v % 10)] := by
  have h1 : Int.tmod (v : Int) 10 = ((v % 10 : Nat) : Int) := rfl
  have : v % 10 < 10 := Nat.mod_lt _ (by omega)
  rw [h1, w64_id (by omega) (by omega), wrap8 (by omega) (by omega)]
  show bts [UInt8.ofNat (48 + ((v % 10 : Nat) : Int)).toNat] = _
  congr 2
theorem digits_eq {v : Nat} (h : v < 1000) (k : Nat) : ref01_digits (k + 3) (v : Int) = some (bts (dig3 v)) := by
  have hd : ∀ x : Nat, x < 1000 → w64 (Int.tdiv (x : Int) 10) = ((x / 10 : Nat) : Int) := fun x hx => by
    rw [show Int.tdiv (x : Int) 10 = ((x / 10 : Nat) : Int) from rfl, w64_id (by omega) (by omega)]
  unfold dig3
  rw [ref01_digits, digits_last]
  by_cases h1 : v < 10
  · rw [if_pos (by rw [decide_eq_true_eq]; omega), if_pos h1, Nat.mod_eq_of_lt h1]
  · rw [if_neg (by rw [decide_eq_true_eq]; omega), if_neg h1, hd v h, ref01_digits, digits_last]
    by_cases h2 : v < 100
    · rw [if_pos (by rw [decide_eq_true_eq]; omega), if_pos h2, Option.bind_some, if_pos (by rw [bts_size, bts_size]; simp), bts_app, Nat.mod_eq_of_lt (show v / 10 < 10 by omega)]; rfl
    · rw [if_neg (by rw [decide_eq_true_eq]; omega), if_neg h2, hd (v / 10) (by omega), ref01_digits, digits_last, if_pos (by rw [decide_eq_true_eq]; omega), Option.bind_some, if_pos (by rw [bts_size, bts_size]; simp), bts_app, Option.bind_some, if_pos (by rw [bts_size, bts_size]; simp), bts_app, Nat.mod_eq_of_lt (show v / 10 / 10 < 10 by omega)]; rfl
theorem digits_int {v : Int} (h : 0 ≤ v ∧ v < 1000) {k : Nat} (hk : 3 ≤ k) : ref01_digits k v = some (bts (dig3 v.toNat)) := by
  obtain ⟨j, rfl⟩ : ∃ j, k = j + 3 := ⟨k - 3, by omega⟩
  obtain ⟨n, rfl⟩ : ∃ n : Nat, v = n := ⟨v.toNat, by omega⟩
  exact digits_eq (by omega) j
def nums (l : List UInt8) : List Int := l.map fun b => ((b.toNat : Nat) : Int)
theorem nums_app (a b : List UInt8) : nums (a ++ b) = nums a ++ nums b := by unfold nums; rw [List.map_append]
theorem nums_len (a : List UInt8) : (nums a).length = a.length := by unfold nums; rw [List.length_map]
theorem u8s_bts (l : List UInt8) : u8s (bts l) = nums l := rfl
theorem nums_str (l : List UInt8) : strOfNums (nums l) = bts l := by
  unfold strOfNums nums bts
  rw [List.map_map]
  congr 2
  have : ((fun n : Int => UInt8.ofNat n.toNat) ∘ fun b : UInt8 => ((b.toNat : Nat) : Int)) = id := by
    funext b; simp
  rw [this, List.map_id]
theorem textB_snoc (t : Tile) : ∀ s : List Tile, textB (s ++ [t]) = if s = [] then tileB t else textB s ++ 32 :: tileB t
  | [] => rfl
  | [u] => rfl
  | u :: v :: r => by
    have ih := textB_snoc t (v :: r)
    rw [if_neg (by simp)] at ih ⊢
    show tileB u ++ 32 :: textB (v :: r ++ [t]) = (tileB u ++ 32 :: textB (v :: r)) ++ 32 :: tileB t
    rw [ih]; simp
theorem text01_eq {s : List Tile} (hl : s.length ≤ 1000) (hc : ∀ t ∈ s, okC t) {k : Nat} (hk : 2000 < k) : ref01_Text k s = some (bts (textB s)) := by
  have := loop_to (F := fun k i l => ref01_Text.l0 k l i s) (S := fun i => nums (textB (s.take i))) (n := s.length) (K := 5) (r := nums (textB s)) (fun k i hk hi => by
    show ref01_Text.l0 (k + 1) (nums (textB (s.take i))) i s = ref01_Text.l0 k (nums (textB (s.take (i + 1)))) ((i + 1 : Nat) : Int) s
    obtain ⟨hN, hE, hS, hW⟩ := hc _ (List.getElem_mem hi)
    have hlen := textB_len (s.take i)
    have hli : (s.take i).length = i := by rw [List.length_take]; omega
    have htl := tileB_len s[i]
    rw [ref01_Text.l0, if_pos (by simpa using hi)]
    have hfirst : (if decide ((i : Int) > 0) = true then (if (nums (textB (s.take i))).length + [32].length ≤ 100000000000 then some (nums (textB (s.take i)) ++ [32]) else none) else some (nums (textB (s.take i)))) = some (nums (if i = 0 then [] else textB (s.take i) ++ [32])) := by
      by_cases h0 : i = 0
      · subst h0; rfl
      · rw [if_pos (by rw [decide_eq_true_eq]; omega), if_pos (by rw [nums_len]; simp; omega), if_neg h0, nums_app]; rfl
    have l1 := dig3_len s[i].N.toNat
    have l2 := dig3_len s[i].E.toNat
    have l3 := dig3_len s[i].S.toNat
    have l4 := dig3_len s[i].W.toNat
    rw [hfirst, Option.bind_some, if_pos (by omega), rdD_get hi, show (⟨#[46]⟩ : ByteArray) = bts [46] from rfl, digits_int hN (by omega), Option.bind_some, if_pos (by rw [bts_size, bts_size]; simp; omega), digits_int hE (by omega), Option.bind_some, bts_app, if_pos (by rw [bts_size, bts_size]; simp; omega), bts_app, if_pos (by rw [bts_size, bts_size]; simp; omega), bts_app, digits_int hS (by omega), Option.bind_some, if_pos (by rw [bts_size, bts_size]; simp; omega), bts_app, if_pos (by rw [bts_size, bts_size]; simp; omega), bts_app, digits_int hW (by omega), Option.bind_some, if_pos (by rw [bts_size, bts_size]; simp; omega), bts_app, u8s_bts, if_pos (by
      rw [nums_len, bts_size]
      split <;> simp <;> omega), succ64 (by omega)]
    congr 1
    rw [← nums_app]
    congr 1
    have ht : s.take (i + 1) = s.take i ++ [s[i]] := by rw [List.take_add_one, List.getElem?_eq_getElem hi]; rfl
    rw [ht, textB_snoc]
    by_cases h0 : i = 0
    · subst h0; simp [tileB]
    · have hne : s.take i ≠ [] := fun e => by rw [e] at hli; simp at hli; omega
      rw [if_neg h0, if_neg hne]; simp [tileB]) (fun k => by
    show ref01_Text.l0 (k + 1) (nums (textB (s.take s.length))) s.length s = _
    rw [ref01_Text.l0, if_neg (by simp), List.take_length]) k (by omega)
  have this : ref01_Text.l0 k [] 0 s = _ := this
  unfold ref01_Text
  rw [this, Option.bind_some, nums_str]
end Gp
set_option linter.unusedVariables false
set_option linter.unusedSimpArgs false
namespace Gq
open Go Gw
/-! ### cut at a byte -/
theorem index_hit1 (c : UInt8) (R : List UInt8) : ∀ X : List UInt8, c ∉ X → Lib.index (X ++ c :: R) [c] = (X.length : Int)
  | [], _ => by rw [List.nil_append, Lib.index]; simp [List.isPrefixOf]
  | b :: X, h => by
    have hb : ¬ c = b := fun e => h (by rw [e]; exact List.mem_cons_self ..)
    have ih := index_hit1 c R X fun hm => h (List.mem_cons_of_mem _ hm)
    have hp : ([c] : List UInt8).isPrefixOf (b :: (X ++ c :: R)) = false := by simp [List.isPrefixOf, hb]
    rw [List.cons_append, Lib.index, hp, ih, if_neg (by decide), if_neg (by simp)]
    simp
theorem index_miss1 (c : UInt8) : ∀ X : List UInt8, c ∉ X → Lib.index X [c] = -1
  | [], _ => by rw [Lib.index]; rfl
  | b :: X, h => by
    have hb : ¬ c = b := fun e => h (by rw [e]; exact List.mem_cons_self ..)
    have ih := index_miss1 c X fun hm => h (List.mem_cons_of_mem _ hm)
    have hp : ([c] : List UInt8).isPrefixOf (b :: X) = false := by simp [List.isPrefixOf, hb]
    rw [Lib.index, hp, ih]; rfl
theorem extract_bts (l : List UInt8) (i j : Nat) : (bts l).extract i j = bts ((l.drop i).take (j - i)) := by
  apply ByteArray.ext
  simp [bts, ByteArray.data_extract]
theorem split_hit (c : UInt8) (X R : List UInt8) (h : c ∉ X) : splitP (bts (X ++ c :: R)) (bts [c]) = bts X :: splitP (bts R) (bts [c]) := by
  have hi : Lib.indexB (bts (X ++ c :: R)) (bts [c]) = (X.length : Int) := index_hit1 c R X h
  have hs : (bts [c]).size = 1 := rfl
  have e1 : (bts (X ++ c :: R)).extract (X.length + (bts [c]).size) (bts (X ++ c :: R)).size = bts R := by
    rw [extract_bts, hs, bts_size]
    congr 1
    rw [List.drop_append, List.drop_eq_nil_of_le (by omega), List.nil_append]
    rw [show X.length + 1 - X.length = 1 by omega]
    show List.take _ R = R
    exact List.take_of_length_le (by simp; omega)
  unfold splitP
  rw [Lib.countB_hit _ _ X.length (by rw [hs]; decide) hi, Nat.add_comm, Lib.splitB_hit _ _ _ _ X.length hi, e1]
  congr 1
  rw [extract_bts]; simp
theorem split_miss (c : UInt8) (X : List UInt8) (h : c ∉ X) : splitP (bts X) (bts [c]) = [bts X] := by
  unfold splitP
  exact Lib.splitB_miss _ _ _ _ (index_miss1 c X h)
theorem dig_no {n : Nat} (h : n < 1000) (c : UInt8) (hc : ¬ isD c) : c ∉ dig3 n := fun hm => hc (dig3_digit h c hm)
theorem parse_step (acc : Nat) (b : UInt8) (r : List UInt8) (hb : isD b) (ha : acc < 1000000) : Lib.parseUint10 acc (b :: r) = Lib.parseUint10 (acc * 10 + (b.toNat - 48)) r := by
  rw [Lib.parseUint10, if_pos (show 48 ≤ b.toNat ∧ b.toNat ≤ 57 from hb), if_neg (by omega), if_neg (by have := hb.2; omega)]
theorem atoi3 {n : Nat} (h : n < 1000) : Lib.atoiAll (dig3 n) = .ok (n : Int) := by
  have hD : ∀ x, x < 10 → isD (UInt8.ofNat (48 + x)) ∧ (UInt8.ofNat (48 + x)).toNat = 48 + x := fun x hx => by
    unfold isD; rw [ofNat_toNat (by omega)]; omega
  have key : ∀ (b : UInt8) (r : List UInt8) (u : Nat), isD b → Lib.parseUint10 0 (b :: r) = .ok u → u < 1000 → Lib.atoiAll (b :: r) = .ok (u : Int) := fun b r u hb hp hu => by
    unfold isD at hb
    unfold Lib.atoiAll
    simp only
    rw [if_neg (show ¬ (b.toNat = 43 ∨ b.toNat = 45) by omega)]
    unfold Lib.parseMag
    rw [if_neg (by simp), hp]
    simp only
    rw [if_neg (by omega), if_neg (by omega), if_neg (by omega)]
  unfold dig3
  split
  · obtain ⟨d1, v1⟩ := hD n (by omega)
    refine key _ _ _ d1 ?_ h
    rw [parse_step _ _ _ d1 (by omega), v1]
    show Lib.NumEnd.ok _ = _
    congr 1; omega
  · split
    · obtain ⟨d1, v1⟩ := hD (n / 10) (by omega)
      obtain ⟨d2, v2⟩ := hD (n % 10) (by omega)
      refine key _ _ _ d1 ?_ h
      rw [parse_step _ _ _ d1 (by omega), v1, parse_step _ _ _ d2 (by omega), v2]
      show Lib.NumEnd.ok _ = _
      congr 1; omega
    · obtain ⟨d1, v1⟩ := hD (n / 10 / 10) (by omega)
      obtain ⟨d2, v2⟩ := hD (n / 10 % 10) (by omega)
      obtain ⟨d3, v3⟩ := hD (n % 10) (by omega)
      refine key _ _ _ d1 ?_ h
      rw [parse_step _ _ _ d1 (by omega), v1, parse_step _ _ _ d2 (by omega), v2, parse_step _ _ _ d3 (by omega), v3]
      show Lib.NumEnd.ok _ = _
      congr 1; omega
theorem atoiN3 {v : Int} (h : 0 ≤ v ∧ v < 1000) : atoiN (bts (dig3 v.toNat)) = some (v, false) := by
  have hl := dig3_len v.toNat
  unfold atoiN
  rw [if_pos (by rw [bts_size]; omega), bts_data, atoi3 (by omega)]
  simp only
  rw [Int.toNat_of_nonneg h.1]
end Gq
namespace Gp
open Go Gw Gq
/-! ### the program reads a text -/
theorem not_dot : ¬ isD 46 := by unfold isD; decide
theorem not_space : ¬ isD 32 := by unfold isD; decide
theorem split_tile {t : Tile} (h : okC t) : splitP (bts (tileB t)) (bts [46]) = [bts (dig3 t.N.toNat), bts (dig3 t.E.toNat), bts (dig3 t.S.toNat), bts (dig3 t.W.toNat)] := by
  obtain ⟨hN, hE, hS, hW⟩ := h
  unfold tileB
  rw [split_hit 46 _ _ (dig_no (by omega) 46 not_dot), split_hit 46 _ _ (dig_no (by omega) 46 not_dot), split_hit 46 _ _ (dig_no (by omega) 46 not_dot), split_miss 46 _ (dig_no (by omega) 46 not_dot)]
theorem tile_space {t : Tile} (h : okC t) : (32 : UInt8) ∉ tileB t := by
  obtain ⟨hN, hE, hS, hW⟩ := h
  have h1 := dig_no (n := t.N.toNat) (by omega) 32 not_space
  have h2 := dig_no (n := t.E.toNat) (by omega) 32 not_space
  have h3 := dig_no (n := t.S.toNat) (by omega) 32 not_space
  have h4 := dig_no (n := t.W.toNat) (by omega) 32 not_space
  unfold tileB
  simp only [List.mem_append, List.mem_cons, not_or]
  exact ⟨h1, by decide, h2, by decide, h3, by decide, h4⟩
theorem split_text : ∀ (s : List Tile), s ≠ [] → (∀ t ∈ s, okC t) → splitP (bts (textB s)) (bts [32]) = s.map fun t => bts (tileB t)
  | [], h, _ => absurd rfl h
  | [t], _, hc => by
    show splitP (bts (tileB t)) (bts [32]) = _
    rw [split_miss 32 _ (tile_space (hc t (List.mem_cons_self ..)))]; rfl
  | t :: u :: r, _, hc => by
    show splitP (bts (tileB t ++ 32 :: textB (u :: r))) (bts [32]) = _
    rw [split_hit 32 _ _ (tile_space (hc t (List.mem_cons_self ..))), split_text (u :: r) (by simp) fun x hx => hc x (List.mem_cons_of_mem _ hx)]; rfl
theorem parse_l1 (p : ByteArray) (i : Int) {P : List ByteArray} (hP : splitP (rdD (splitP p (bts [32])) i ByteArray.empty) (bts [46]) = P) (h4 : P.length = 4) {t : Int × Bool} (x : Nat) (hx : x < 4) (ht : atoiN (rdD P (x : Int) ByteArray.empty) = some t) (a b c d : Int) (k : Nat) :
    tile_Parse.l1 (k + 1) a b c d x p i = if t.2 = true then some (.inl ([], 3)) else tile_Parse.l1 k (if x = 0 then t.1 else a) (if x = 1 then t.1 else b) (if x = 2 then t.1 else c) (if x = 3 then t.1 else d) ((x + 1 : Nat) : Int) p i := by
  have hP' : splitP (rdD (splitP p (⟨#[32]⟩ : ByteArray)) i ByteArray.empty) (⟨#[46]⟩ : ByteArray) = P := hP
  rw [tile_Parse.l1, hP', if_pos (by rw [decide_eq_true_eq]; omega), if_pos (by omega), ht, Option.bind_some, succ64 (by omega)]
  cases t.2
  · rw [if_neg (show ¬ (false = true) by decide), if_neg (show ¬ (false = true) by decide)]
    have : x = 0 ∨ x = 1 ∨ x = 2 ∨ x = 3 := by omega
    rcases this with rfl | rfl | rfl | rfl <;> rfl
  · rfl
theorem parse_l1e (p : ByteArray) (i : Int) {P : List ByteArray} (hP : splitP (rdD (splitP p (bts [32])) i ByteArray.empty) (bts [46]) = P) (h4 : P.length = 4) (a b c d : Int) (k : Nat) : tile_Parse.l1 (k + 1) a b c d ((4 : Nat) : Int) p i = some (.inr (a, b, c, d)) := by
  have hP' : splitP (rdD (splitP p (⟨#[32]⟩ : ByteArray)) i ByteArray.empty) (⟨#[46]⟩ : ByteArray) = P := hP
  rw [tile_Parse.l1, hP', if_neg (by rw [decide_eq_true_eq]; omega)]
theorem parse_l1_tile (p : ByteArray) (i : Int) {t : Tile} (h : okC t) (hp : rdD (splitP p (bts [32])) i ByteArray.empty = bts (tileB t)) (k : Nat) : tile_Parse.l1 (k + 5) 0 0 0 0 0 p i = some (.inr (t.N, t.E, t.S, t.W)) := by
  have hP : splitP (rdD (splitP p (bts [32])) i ByteArray.empty) (bts [46]) = [bts (dig3 t.N.toNat), bts (dig3 t.E.toNat), bts (dig3 t.S.toNat), bts (dig3 t.W.toNat)] := by rw [hp]; exact split_tile h
  have s0 := parse_l1 p i hP rfl 0 (by omega) (atoiN3 h.1) 0 0 0 0 (k + 4)
  have s1 := parse_l1 p i hP rfl 1 (by omega) (atoiN3 h.2.1) t.N 0 0 0 (k + 3)
  have s2 := parse_l1 p i hP rfl 2 (by omega) (atoiN3 h.2.2.1) t.N t.E 0 0 (k + 2)
  have s3 := parse_l1 p i hP rfl 3 (by omega) (atoiN3 h.2.2.2) t.N t.E t.S 0 (k + 1)
  have s4 := parse_l1e p i hP rfl t.N t.E t.S t.W k
  exact s0.trans (s1.trans (s2.trans (s3.trans s4)))
theorem parse_text {s : List Tile} (hv : validT s = true) {k : Nat} (hk : 5000 < k) : tile_Parse k (bts (textB s)) = some (s, 0) := by
  have hc := valid_okC hv
  have hl := valid_len hv
  have hlen := textB_len s
  unfold tile_Parse
  rw [show (⟨#[]⟩ : ByteArray) = bts [] from rfl, strEq_bts]
  by_cases h0 : s = []
  · subst h0; rfl
  rw [if_neg (by rw [decide_eq_true_eq]; exact fun e => h0 (textB_nil e)), if_neg (by rw [decide_eq_true_eq, bts_size]; omega), if_pos ⟨by rw [bts_size]; omega, by decide⟩]
  have hsp := split_text s h0 hc
  have := loop_to (F := fun k i l => tile_Parse.l0 k l i (bts (textB s))) (S := fun i => s.take i) (n := s.length) (K := 5) (r := (.inr s : Sum (List Tile × Int) (List Tile))) (fun k i hk hi => by
    show tile_Parse.l0 (k + 1) (s.take i) i (bts (textB s)) = tile_Parse.l0 k (s.take (i + 1)) ((i + 1 : Nat) : Int) (bts (textB s))
    obtain ⟨j, rfl⟩ : ∃ j, k = j + 5 := ⟨k - 5, by omega⟩
    have hp : rdD (splitP (bts (textB s)) (bts [32])) (i : Int) ByteArray.empty = bts (tileB s[i]) := by rw [hsp, rdD_get (by simpa using hi)]; simp
    have hst := split_tile (hc _ (List.getElem_mem hi))
    have htl := tileB_len s[i]
    rw [tile_Parse.l0, show (⟨#[32]⟩ : ByteArray) = bts [32] from rfl, show (⟨#[46]⟩ : ByteArray) = bts [46] from rfl, hp, hst, if_pos (by rw [hsp]; simpa using hi), if_pos (by rw [hsp]; simp; omega), if_pos ⟨by rw [bts_size]; omega, by decide⟩, if_neg (by simp; omega), parse_l1_tile _ _ (hc _ (List.getElem_mem hi)) hp, Option.bind_some]
    simp only [sumb]
    rw [if_pos (by simp; omega), succ64 (by omega)]
    congr 1
    rw [List.take_add_one, List.getElem?_eq_getElem hi]; rfl) (fun k => by
    show tile_Parse.l0 (k + 1) (s.take s.length) s.length (bts (textB s)) = _
    rw [tile_Parse.l0, show (⟨#[32]⟩ : ByteArray) = bts [32] from rfl, if_neg (by rw [hsp]; simp), List.take_length]) k (by omega)
  have this : tile_Parse.l0 k [] 0 (bts (textB s)) = _ := this
  rw [this, Option.bind_some]
  simp only [sumb]
  rw [tile_valid s (by omega) (by omega), hv, Option.bind_some, if_neg (by decide), write_eq hl hc (by omega), Option.bind_some, Option.bind_some, strEq_bts, if_neg (by simp)]
end Gp
set_option linter.unusedVariables false
set_option linter.unusedSimpArgs false
namespace Gp
open Go Gw Gq
/-! ### the reference reads a text -/
end Gp
set_option linter.unusedVariables false
set_option linter.unusedSimpArgs false
namespace Gp
open Go Gw Gq
/-! ### sets and their texts -/
theorem rset0 {s : List Tile} (hl : s.length ≤ 2000) {k : Nat} (hk : 3000 < k) : ref01_Mirror k s = some (s.map mirT) := by
  have := loop_to (F := fun k i l => ref01_Mirror.l0 k l i s) (S := fun i => (s.map mirT).take i) (n := s.length) (K := 0) (r := s.map mirT) (fun k i _ hi => by
    show ref01_Mirror.l0 (k + 1) ((s.map mirT).take i) i s = ref01_Mirror.l0 k ((s.map mirT).take (i + 1)) ((i + 1 : Nat) : Int) s
    rw [ref01_Mirror.l0, if_pos (by simpa using hi), if_pos (by omega), if_pos (by simp; omega), succ64 (by omega), take_succ_map hi, rdD_nat]; rfl) (fun k => by
    show ref01_Mirror.l0 (k + 1) ((s.map mirT).take s.length) s.length s = _
    rw [ref01_Mirror.l0, if_neg (by simp), ← List.length_map (f := mirT), List.take_length]) k (by omega)
  have this : ref01_Mirror.l0 k [] 0 s = _ := this
  unfold ref01_Mirror
  rw [this]; rfl
theorem rset1 {s : List Tile} (hl : s.length ≤ 2000) {k : Nat} (hk : 3000 < k) : ref01_Upturn k s = some (s.map upT) := by
  have := loop_to (F := fun k i l => ref01_Upturn.l0 k l i s) (S := fun i => (s.map upT).take i) (n := s.length) (K := 0) (r := s.map upT) (fun k i _ hi => by
    show ref01_Upturn.l0 (k + 1) ((s.map upT).take i) i s = ref01_Upturn.l0 k ((s.map upT).take (i + 1)) ((i + 1 : Nat) : Int) s
    rw [ref01_Upturn.l0, if_pos (by simpa using hi), if_pos (by omega), if_pos (by simp; omega), succ64 (by omega), take_succ_map hi, rdD_nat]; rfl) (fun k => by
    show ref01_Upturn.l0 (k + 1) ((s.map upT).take s.length) s.length s = _
    rw [ref01_Upturn.l0, if_neg (by simp), ← List.length_map (f := upT), List.take_length]) k (by omega)
  have this : ref01_Upturn.l0 k [] 0 s = _ := this
  unfold ref01_Upturn
  rw [this]; rfl
theorem rset2 {s : List Tile} (hl : s.length ≤ 2000) {k : Nat} (hk : 3000 < k) : ref01_Turn k s = some (s.map turnT) := by
  have := loop_to (F := fun k i l => ref01_Turn.l0 k l i s) (S := fun i => (s.map turnT).take i) (n := s.length) (K := 0) (r := s.map turnT) (fun k i _ hi => by
    show ref01_Turn.l0 (k + 1) ((s.map turnT).take i) i s = ref01_Turn.l0 k ((s.map turnT).take (i + 1)) ((i + 1 : Nat) : Int) s
    rw [ref01_Turn.l0, if_pos (by simpa using hi), if_pos (by omega), if_pos (by simp; omega), succ64 (by omega), take_succ_map hi, rdD_nat]; rfl) (fun k => by
    show ref01_Turn.l0 (k + 1) ((s.map turnT).take s.length) s.length s = _
    rw [ref01_Turn.l0, if_neg (by simp), ← List.length_map (f := turnT), List.take_length]) k (by omega)
  have this : ref01_Turn.l0 k [] 0 s = _ := this
  unfold ref01_Turn
  rw [this]; rfl
theorem chset_no {s : List Tile} (hl : s.length ≤ 9223372036854775807) (hv : validT s = false) {k : Nat} (hk : 1006 ≤ k) : tile_Mirror k s = some ([], 1) ∧ tile_Upturn k s = some ([], 1) ∧ tile_Turn k s = some ([], 1) ∧ tile_Text k s = some (bts [], 1) := by
  refine ⟨?_, ?_, ?_, ?_⟩
  · unfold tile_Mirror tile_changed_at0; rw [tile_valid s hk hl, hv]; rfl
  · unfold tile_Upturn tile_changed_at1; rw [tile_valid s hk hl, hv]; rfl
  · unfold tile_Turn tile_changed_at2; rw [tile_valid s hk hl, hv]; rfl
  · unfold tile_Text; rw [tile_valid s hk hl, hv]; rfl
theorem text_ok {s : List Tile} (hv : validT s = true) {k : Nat} (hk : 2000 < k) : tile_Text k s = some (bts (textB s), 0) := by
  have hl := valid_len hv
  unfold tile_Text
  rw [tile_valid s (by omega) (by omega), hv, Option.bind_some, if_neg (by decide), write_eq hl (valid_okC hv) hk]; rfl
theorem law01_TileSets_pure : ∀ (p0 : List Tile), ((∀ x ∈ p0, ok_Tile x) ∧ p0.length ≤ maxLen) → ∃ k, law01_TileSets k p0 = some true := by
  intro s hs
  have hl : s.length ≤ 9223372036854775807 := hs.2
  refine ⟨200000, ?_⟩
  have aw : law01_awake 200000 = some true := awake01_ok 199900
  unfold law01_TileSets law01_wide
  rw [Option.bind_some]
  by_cases hw : (s.length : Int) > 1100
  · rw [if_pos (decide_eq_true hw), aw]; rfl
  rw [if_neg (by rw [decide_eq_true_eq]; exact hw)]
  cases hv : validT s
  · obtain ⟨h0, h1, h2, h3⟩ := chset_no hl hv (k := 200000) (by omega)
    rw [h0, Option.bind_some, h1, Option.bind_some, h2, Option.bind_some, h3, Option.bind_some, tile_valid s (by omega) hl, Option.bind_some, valid01 s (by omega) hl, Option.bind_some, hv, if_neg (by decide), Option.bind_some, if_pos (by decide)]
    unfold law01_none
    rw [Option.bind_some, if_pos (by decide), Option.bind_some, Option.bind_some, if_pos (by decide), Option.bind_some, show (⟨#[]⟩ : ByteArray) = bts [] from rfl, strEq_bts, if_pos (by decide), aw]; rfl
  · have h8 := valid_len hv
    have S0 := fun (f : Tile → Tile) => sameset_refl (s.map f) (by rw [List.length_map]; omega) 200000 (by rw [List.length_map]; omega)
    rw [chset0 hv (by omega), Option.bind_some, chset1 hv (by omega), Option.bind_some, chset2 hv (by omega), Option.bind_some, text_ok hv (by omega), Option.bind_some, tile_valid s (by omega) hl, Option.bind_some, valid01 s (by omega) hl, Option.bind_some, hv, if_neg (by decide), Option.bind_some, if_neg (by decide), if_neg (show ¬ (((((0 : Int) != 0) || ((0 : Int) != 0)) || ((0 : Int) != 0)) || ((0 : Int) != 0)) = true by decide), text01_eq h8 (valid_okC hv) (by omega), Option.bind_some, Option.bind_some, strEq_bts, if_neg (by simp), parse_text hv (by omega), Option.bind_some, if_pos (by simp), sameset_refl s (by omega) 200000 (by omega), Option.bind_some, Option.bind_some, if_pos rfl, rset0 (by omega) (by omega), Option.bind_some, S0 mirT, Option.bind_some, Option.bind_some, if_pos rfl, rset1 (by omega) (by omega), Option.bind_some, S0 upT, Option.bind_some, Option.bind_some, if_pos rfl, rset2 (by omega) (by omega), Option.bind_some, S0 turnT, Option.bind_some, Option.bind_some, if_pos rfl, aw]; rfl
end Gp
