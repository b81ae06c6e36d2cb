/- The plain law: what the functions compute answers as the statement says. -/
import Derived.Test.YtjfmjfheeijfiaaGreatDoorGp
import Derived.KernelRfl
set_option linter.unusedVariables false
set_option linter.unusedSimpArgs false
namespace Gq
open Go Gw Gp
/-! ### numbers and lists -/
theorem w64_id {n : Int} (h0 : -9223372036854775808 ≤ n) (h1 : n ≤ 9223372036854775807) : w64 n = n := by
  show IntKind.i64.wrap n = n
  have e : IntKind.i64.wrap n = if (true && decide (n % 18446744073709551616 ≥ 9223372036854775808)) = true then n % 18446744073709551616 - 18446744073709551616 else n % 18446744073709551616 := rfl
  rw [e]
  simp only [Bool.true_and, decide_eq_true_eq]
  split <;> omega
theorem rdD_nat {α : Type} (xs : List α) (i : Nat) (d : α) : rdD xs (i : Int) d = xs.getD i d := by simp [rdD]
theorem rdD_get {α : Type} {xs : List α} {i : Nat} (h : i < xs.length) (d : α) : rdD xs (i : Int) d = xs[i] := by
  simp [rdD, List.getD, List.getElem?_eq_getElem h]
def firstS {α β : Type} (g : Nat → α → Option β) : Nat → List α → Option β
  | _, [] => none
  | i, a :: r => match g i a with
    | some b => some b
    | none => firstS g (i + 1) r
def fin {β : Type} : Option β → Sum β Unit
  | some b => .inl b
  | none => .inr ()
theorem scan {α β : Type} {F : Nat → Int → Option (Sum β Unit)} {xs : List α} {g : Nat → α → Option β}
    (hF : ∀ k (i : Nat), i ≤ xs.length → F (k + 1) (i : Int) = if h : i < xs.length then (match g i xs[i] with | some b => some (.inl b) | none => F k ((i + 1 : Nat) : Int)) else some (.inr ())) :
    ∀ (n k i : Nat), i + n = xs.length → n < k → F k (i : Int) = some (fin (firstS g i (xs.drop i)))
  | 0, k, i, hi, hk => by
    obtain ⟨k, rfl⟩ : ∃ m, k = m + 1 := ⟨k - 1, by omega⟩
    have hi : i = xs.length := by omega
    subst hi
    rw [hF k _ (Nat.le_refl _), dif_neg (Nat.lt_irrefl _), List.drop_length]; rfl
  | n + 1, k, i, hi, hk => by
    obtain ⟨k, rfl⟩ : ∃ m, k = m + 1 := ⟨k - 1, by omega⟩
    have hlt : i < xs.length := by omega
    rw [hF k i (by omega), dif_pos hlt, List.drop_eq_getElem_cons hlt, firstS]
    cases hg : g i xs[i] with
    | some b => rfl
    | none => exact scan hF n k (i + 1) (by omega) (by omega)
end Gq
set_option linter.unusedVariables false
set_option linter.unusedSimpArgs false
namespace Gq
theorem loop_to {σ τ : Type} {F : Nat → Int → σ → Option τ} {S : Nat → σ} {n K : Nat} {r : τ} (hs : ∀ k i, K ≤ k → i < n → F (k + 1) (i : Int) (S i) = F k ((i + 1 : Nat) : Int) (S (i + 1))) (he : ∀ k, F (k + 1) (n : Int) (S n) = some r) :
    ∀ k, n + K < k → F k 0 (S 0) = some r := by
  have key : ∀ d i k, i + d = n → d + K < k → F k (i : Int) (S i) = some r := by
    intro d
    induction d with
    | zero =>
      intro i k hi hk
      obtain ⟨k, rfl⟩ : ∃ m, k = m + 1 := ⟨k - 1, by omega⟩
      have : i = n := by omega
      subst this; exact he k
    | succ d ih =>
      intro i k hi hk
      obtain ⟨k, rfl⟩ : ∃ m, k = m + 1 := ⟨k - 1, by omega⟩
      rw [hs k i (by omega) (by omega)]
      exact ih (i + 1) k (by omega) (by omega)
  intro k hk
  exact key n 0 k (by omega) hk
theorem flat_succ {α : Type} (f : Nat → List α) (n : Nat) : (List.range (n + 1)).flatMap f = (List.range n).flatMap f ++ f n := by
  rw [List.range_succ, List.flatMap_append]; simp
end Gq
namespace Gp
open Gw Gq
/-! ### the tiles of a machine -/
def hd (Y q s : Nat) : Int := ((Y + q * Y + s : Nat) : Int)
end Gp
set_option linter.unusedVariables false
set_option linter.unusedSimpArgs false
namespace Gq
theorem flat_get {α : Type} {f : Nat → List α} : ∀ {n q j : Nat} {t : α}, q < n → (f q)[j]? = some t → ((List.range n).flatMap f)[((List.range q).flatMap f).length + j]? = some t
  | 0, q, j, t, h, _ => by omega
  | n + 1, q, j, t, h, hj => by
    rw [flat_succ, List.getElem?_append]
    by_cases hq : q < n
    · have := flat_get (n := n) hq hj
      rw [if_pos (by by_cases hl : ((List.range q).flatMap f).length + j < ((List.range n).flatMap f).length
                     · exact hl
                     · rw [List.getElem?_eq_none (by omega)] at this; cases this)]
      exact this
    · have : q = n := by omega
      subst this
      rw [if_neg (by omega), show ((List.range q).flatMap f).length + j - ((List.range q).flatMap f).length = j by omega]; exact hj
theorem flat_len {α : Type} {f : Nat → List α} {b : Nat} (hf : ∀ i, (f i).length = b) : ∀ n, ((List.range n).flatMap f).length = n * b
  | 0 => by simp
  | n + 1 => by
    rw [flat_succ, List.length_append, Nat.add_mul, Nat.one_mul, flat_len hf n, hf n]
end Gq
namespace Gp
open Gw Gq
/-! ### where the tiles of a machine lie -/
end Gp
set_option linter.unusedVariables false
set_option linter.unusedSimpArgs false
namespace Gp
open Gw Gq
/-! ### the tile that shows a cell of a step -/
theorem Tile.ext' {a b : Tile} (h1 : a.N = b.N) (h2 : a.E = b.E) (h3 : a.S = b.S) (h4 : a.W = b.W) : a = b := by
  cases a; cases b; simp only at h1 h2 h3 h4; subst h1 h2 h3 h4; rfl
end Gp
set_option linter.unusedVariables false
set_option linter.unusedSimpArgs false
namespace Gq
theorem loop_all {σ ρ τ : Type} {F : Nat → Int → σ → Option (Sum ρ τ)} {S : Nat → σ} {b : Nat → Bool} {n K : Nat} {r : ρ} {e : τ} (hs : ∀ k i, K ≤ k → i < n → F (k + 1) (i : Int) (S i) = if b i = true then F k ((i + 1 : Nat) : Int) (S (i + 1)) else some (.inl r)) (he : ∀ k, F (k + 1) (n : Int) (S n) = some (.inr e)) :
    ∀ k, n + K < k → F k 0 (S 0) = some (if (List.range n).all b = true then .inr e else .inl r) := by
  have key : ∀ d i k, i + d = n → d + K < k → F k (i : Int) (S i) = some (if (List.range' i d).all b = true then .inr e else .inl r) := by
    intro d
    induction d with
    | zero =>
      intro i k hi hk
      obtain ⟨k, rfl⟩ : ∃ m, k = m + 1 := ⟨k - 1, by omega⟩
      have : i = n := by omega
      subst this; rw [he]; rfl
    | succ d ih =>
      intro i k hi hk
      obtain ⟨k, rfl⟩ : ∃ m, k = m + 1 := ⟨k - 1, by omega⟩
      rw [hs k i (by omega) (by omega), List.range'_succ, List.all_cons]
      cases hb : b i
      · rfl
      · rw [if_pos rfl, ih (i + 1) k (by omega) (by omega)]; rfl
  intro k hk
  rw [List.range_eq_range']
  exact key n 0 k (by omega) hk
theorem firstS_ge' {α : Type} {p : α → Bool} : ∀ (xs : List α) (i : Nat), (match firstS (fun i a => if p a = true then none else some (i : Int)) i xs with
    | some x => decide (0 ≤ x)
    | none => false) = !xs.all p
  | [], i => rfl
  | a :: r, i => by
    rw [firstS]
    cases h : p a
    · simp [h]
    · simp only [if_true, List.all_cons, h, Bool.true_and]
      exact firstS_ge' r (i + 1)
end Gq
namespace Gp
open Gw Gq
/-! ### sets of tiles and patterns -/
def inCol (c : Int) : Bool := decide (0 ≤ c ∧ c < 1000)
def colB (t : Tile) : Bool := inCol t.N && inCol t.E && inCol t.S && inCol t.W
theorem idx_col (xs : List Int) (hl : xs.length ≤ 1000000) (k : Nat) (hk : xs.length < k) :
    slices_IndexFunc_int_int_with_tile_colour_1.l0 k 0 xs = some (fin (firstS (fun i a => if inCol a = true then none else some (i : Int)) 0 xs)) := by
  have := scan (F := fun k i => slices_IndexFunc_int_int_with_tile_colour_1.l0 k i xs) (xs := xs) (g := fun i a => if inCol a = true then none else some (i : Int)) (fun k i hi => by
    show slices_IndexFunc_int_int_with_tile_colour_1.l0 (k + 1) i xs = _
    rw [slices_IndexFunc_int_int_with_tile_colour_1.l0]
    by_cases h : i < xs.length
    · have h' : (i : Int) < (xs.length : Int) := by omega
      have h2 : 0 ≤ (i : Int) ∧ (i : Int) < (xs.length : Int) := by omega
      rw [dif_pos h, if_pos (by simpa using h'), if_pos h2, rdD_get h, tile_colour_1, w64_id (by omega) (by omega)]
      by_cases hb : 0 ≤ xs[i] ∧ xs[i] < 1000
      · have h3 : ¬ (xs[i] < 0 ∨ 1000 ≤ xs[i]) := by omega
        simp [inCol, hb]
        intro hh; exact absurd hh h3
      · have h3 : (xs[i] < 0 ∨ 1000 ≤ xs[i]) := by omega
        simp [inCol, hb, h3]
    · have h' : ¬ (i : Int) < (xs.length : Int) := by omega
      rw [dif_neg h, if_neg (by simpa using h')]) xs.length k 0 (by simp) hk
  simpa using this
theorem colour_eq (xs : List Int) (hl : xs.length ≤ 1000000) (k : Nat) (hk : xs.length < k) : tile_colour k xs = some (xs.all inCol) := by
  unfold tile_colour slices_ContainsFunc_int_int_with_tile_colour_1 slices_IndexFunc_int_int_with_tile_colour_1
  rw [idx_col xs hl k hk]
  have := firstS_ge' (p := inCol) xs 0
  cases hf : firstS (fun i a => if inCol a = true then none else some (i : Int)) 0 xs <;> rw [hf] at this <;> cases ha : xs.all inCol <;> rw [ha] at this <;> simp [fin, sumb] at this ⊢
  · exact this
  · exact this
def metS (set : List Tile) (i : Nat) : List (Tile × Bool) := (set.take i).map fun t => (t, true)
theorem mget_met (t : Tile) : ∀ l : List Tile, mget t false (l.map fun t => (t, true)) = decide (t ∈ l)
  | [] => rfl
  | a :: r => by
    simp only [List.map_cons, mget]
    by_cases h : t = a
    · simp [h]
    · rw [if_neg h, mget_met t r]; simp [h]
theorem mput_met (t : Tile) : ∀ l : List Tile, t ∉ l → mput t true (l.map fun t => (t, true)) = (l.map fun t => (t, true)) ++ [(t, true)]
  | [], _ => rfl
  | a :: r, h => by
    simp only [List.mem_cons, not_or] at h
    simp only [List.map_cons, mput, if_neg h.1, mput_met t r h.2, List.cons_append]
def newB (set : List Tile) (i : Nat) : Bool := !decide (set.getD i z_Tile ∈ set.take i) && colB (set.getD i z_Tile)
def validT (set : List Tile) : Bool := decide (set.length ≤ 1000) && (List.range set.length).all (newB set)
theorem tile_valid (set : List Tile) {k : Nat} (hk : 1006 ≤ k) (hl : set.length ≤ 9223372036854775807) : tile_Valid k set = some (validT set) := by
  unfold tile_Valid validT
  by_cases hb : set.length ≤ 1000
  · rw [if_neg (by simp; omega)]
    have := loop_all (F := fun k i (m : List (Tile × Bool)) => tile_Valid.l0 k m i set) (S := metS set) (b := newB set) (n := set.length) (K := 5) (r := false) (e := ()) (fun k i hk hi => by
      show tile_Valid.l0 (k + 1) (metS set i) i set = if newB set i = true then tile_Valid.l0 k (metS set (i + 1)) ((i + 1 : Nat) : Int) set else _
      rw [tile_Valid.l0, if_pos (by simpa using hi), if_pos (by omega), rdD_nat, metS, mget_met]
      have ht : set.getD i z_Tile = set[i] := by simp [List.getElem?_eq_getElem hi]
      unfold newB
      by_cases hm : set.getD i z_Tile ∈ set.take i
      · rw [if_pos (by simpa using hm), show decide (set.getD i z_Tile ∈ set.take i) = true from decide_eq_true hm]; rfl
      · rw [if_neg (by simpa using hm), colour_eq _ (by simp) k (by simp; omega), Option.bind_some, Option.bind_some]
        have hc : ([(set.getD i z_Tile).N, (set.getD i z_Tile).E, (set.getD i z_Tile).S, (set.getD i z_Tile).W].all inCol) = colB (set.getD i z_Tile) := by simp [colB, Bool.and_assoc]
        rw [hc]
        cases hcb : colB (set.getD i z_Tile)
        · simp
        · rw [mput_met _ _ hm, w64_id (by omega) (by omega)]
          simp only [hm, Bool.not_true, Bool.false_eq_true, if_false, decide_false, Bool.not_false, Bool.and_self, if_true]
          unfold metS
          rw [List.take_add_one, List.map_append, List.getElem?_eq_getElem hi, ht]; rfl) (fun k => by
      show tile_Valid.l0 (k + 1) (metS set set.length) set.length set = _
      rw [tile_Valid.l0, if_neg (by simp)]) k (by omega)
    have h0 : tile_Valid.l0 k [] 0 set = some (if (List.range set.length).all (newB set) = true then .inr () else .inl false) := this
    rw [h0]
    cases (List.range set.length).all (newB set) <;> simp [sumb, hb]
  · rw [if_pos (by simp; omega)]; simp [hb]
def formB (p : Pattern) : Bool := decide (1 ≤ p.Width ∧ 1 ≤ p.Height ∧ p.Width ≤ 40000 ∧ p.Height ≤ 40000 ∧ p.Width * p.Height ≤ 40000 ∧ (p.Cells.length : Int) = p.Width * p.Height)
def inSet (n : Nat) (c : Int) : Bool := decide (0 ≤ c ∧ c < (n : Int))
def ofB (set : List Tile) (p : Pattern) : Bool := validT set && formB p && p.Cells.all (inSet set.length)
structure PForm (set : List Tile) (p : Pattern) (W H : Nat) : Prop where
  w : p.Width = W
  h : p.Height = H
  dW : 1 ≤ W ∧ W ≤ 40000
  dH : 1 ≤ H ∧ H ≤ 40000
  wh : H * W ≤ 40000
  len : p.Cells.length = H * W
  cel : ∀ j, j < H * W → 0 ≤ p.Cells.getD j 0 ∧ p.Cells.getD j 0 < (set.length : Int)
theorem place_lt {W H x y : Nat} (hx : x < W) (hy : y < H) : y * W + x < H * W := by
  have := Nat.mul_le_mul_right W (show y + 1 ≤ H by omega)
  rw [Nat.succ_mul] at this; omega
end Gp
set_option linter.unusedVariables false
set_option linter.unusedSimpArgs false
namespace Gp
open Gw Gq
/-! ### the pictures are patterns of the tiles -/
theorem PForm.of {set : List Tile} {p : Pattern} {W H : Nat} (f : PForm set p W H) (hv : validT set = true) : ofB set p = true := by
  unfold ofB formB
  have h1 := f.dW; have h2 := f.dH; have h3 := f.wh
  have e : p.Width * p.Height = ((H * W : Nat) : Int) := by rw [f.w, f.h, Int.natCast_mul, Int.mul_comm]
  rw [hv, e, f.w, f.h, f.len]
  simp only [Bool.true_and, Bool.and_eq_true, decide_eq_true_eq, List.all_eq_true]
  refine ⟨⟨by omega, by omega, by omega, by omega, by omega, trivial⟩, fun a ha => ?_⟩
  obtain ⟨j, hj, he⟩ := List.mem_iff_getElem.1 ha
  have := f.cel j (by rw [← f.len]; exact hj)
  rw [show p.Cells.getD j 0 = p.Cells[j] from by simp [List.getElem?_eq_getElem hj], he] at this
  unfold inSet; exact decide_eq_true this
end Gp
set_option linter.unusedVariables false
set_option linter.unusedSimpArgs false
namespace Gq
end Gq
namespace Gp
open Gw Gq
/-! ### the patterns of the statements' own reference -/
end Gp
set_option linter.unusedVariables false
set_option linter.unusedSimpArgs false
namespace Gp
open Gw Gq
end Gp
set_option linter.unusedVariables false
set_option linter.unusedSimpArgs false
namespace Gp
open Gw Gq
/-! ### a torus, repeated -/
end Gp
set_option linter.unusedVariables false
set_option linter.unusedSimpArgs false
namespace Gp
open Gw Gq
/-! ### the first layer's reference -/
theorem colour01 (c : Int) : ref01_colour c = some (inCol c) := by
  unfold ref01_colour inCol
  by_cases h : 0 ≤ c ∧ c < 1000
  · simp [h]
  · rw [decide_eq_false h]
    congr 1
    cases h1 : decide (c ≥ 0)
    · rfl
    · have : ¬ c < 1000 := fun h2 => h ⟨by simpa using h1, h2⟩
      simp [this]
theorem index01 {set : List Tile} (hl : set.length ≤ 1000000) (t : Tile) {k : Nat} (hk : set.length < k) : ∃ r : Int, ref01_Index k set t = some r ∧ decide (r ≥ 0) = decide (t ∈ set) := by
  have := scan (F := fun k i => ref01_Index.l0 k i set t) (xs := set) (g := fun i a => if a = t then some (i : Int) else none) (fun k i hi => by
    show ref01_Index.l0 (k + 1) i set t = _
    rw [ref01_Index.l0]
    by_cases h : i < set.length
    · have h2 : 0 ≤ (i : Int) ∧ (i : Int) < (set.length : Int) := by omega
      rw [dif_pos h, if_pos (by simpa using h), if_pos h2, rdD_get h, w64_id (by omega) (by omega)]
      by_cases hb : set[i] = t
      · subst hb; simp
      · have : ((set[i].N == t.N) && ((set[i].E == t.E) && ((set[i].S == t.S) && (set[i].W == t.W)))) = false := by
          cases hc : ((set[i].N == t.N) && ((set[i].E == t.E) && ((set[i].S == t.S) && (set[i].W == t.W))))
          · rfl
          · simp only [Bool.and_eq_true, beq_iff_eq] at hc
            exact absurd (Tile.ext' hc.1 hc.2.1 hc.2.2.1 hc.2.2.2) hb
        rw [this, if_neg hb]; rfl
    · rw [dif_neg h, if_neg (by simpa using h)]) set.length k 0 (by simp) hk
  have h0 : ref01_Index.l0 k 0 set t = some (fin (firstS (fun i a => if a = t then some (i : Int) else none) 0 (set.drop 0))) := this
  rw [List.drop_zero] at h0
  have key : ∀ (l : List Tile) (i : Nat), match firstS (fun i a => if a = t then some (i : Int) else none) i l with
      | some x => decide (x ≥ 0) = decide (t ∈ l)
      | none => decide (t ∈ l) = false := by
    intro l
    induction l with
    | nil => intro i; simp [firstS]
    | cons a r ih =>
      intro i
      rw [firstS]
      by_cases ha : a = t
      · subst ha; simp
      · have hne : ¬ t = a := fun e => ha e.symm
        rw [if_neg ha]
        have := ih (i + 1)
        cases hf : firstS (fun i a => if a = t then some (i : Int) else none) (i + 1) r with
        | none => rw [hf] at this; simp only [List.mem_cons, hne, false_or]; exact this
        | some x => rw [hf] at this; simp only [List.mem_cons, hne, false_or]; exact this
  unfold ref01_Index
  rw [h0]
  have hk2 := key set 0
  cases hf : firstS (fun i a => if a = t then some (i : Int) else none) 0 set with
  | none => rw [hf] at hk2; exact ⟨-1, rfl, by rw [hk2]; rfl⟩
  | some x => rw [hf] at hk2; exact ⟨x, rfl, hk2⟩
theorem valid01 (set : List Tile) {k : Nat} (hk : 2002 < k) (hl : set.length ≤ 9223372036854775807) : ref01_Valid k set = some (validT set) := by
  unfold ref01_Valid validT
  by_cases hb : set.length ≤ 1000
  · rw [if_neg (by simp; omega)]
    have := loop_all (F := fun k i (_ : Unit) => ref01_Valid.l0 k i set) (S := fun _ => ()) (b := newB set) (n := set.length) (K := 1001) (r := false) (e := ()) (fun k i hk hi => by
      show ref01_Valid.l0 (k + 1) i set = if newB set i = true then ref01_Valid.l0 k ((i + 1 : Nat) : Int) set else _
      have hcut : cut set (0 : Int) (i : Int) = set.take i := by unfold cut; simp
      obtain ⟨r, hr, hd⟩ := index01 (set := set.take i) (by rw [List.length_take]; omega) (set.getD i z_Tile) (k := k) (by rw [List.length_take]; omega)
      rw [ref01_Valid.l0, if_pos (by simpa using hi), if_pos (by omega)]
      simp only [rdD_nat, colour01, Option.bind_some, hcut]
      rw [if_pos (⟨by omega, by omega, by omega⟩ : 0 ≤ (0 : Int) ∧ (0 : Int) ≤ (i : Int) ∧ (i : Int) ≤ (set.length : Int)), hr, w64_id (by omega) (by omega)]
      simp only [Option.bind_some, hd]
      unfold newB colB
      cases inCol (set.getD i z_Tile).N
      · simp
      · cases inCol (set.getD i z_Tile).E
        · simp
        · cases inCol (set.getD i z_Tile).S
          · simp
          · cases inCol (set.getD i z_Tile).W
            · simp
            · cases decide (set.getD i z_Tile ∈ set.take i) <;> simp) (fun k => by
      show ref01_Valid.l0 (k + 1) set.length set = _
      rw [ref01_Valid.l0, if_neg (by simp)]) k (by omega)
    have h0 : ref01_Valid.l0 k 0 set = some (if (List.range set.length).all (newB set) = true then .inr () else .inl false) := this
    rw [h0]
    cases (List.range set.length).all (newB set) <;> simp [sumb, hb]
  · rw [if_pos (by simp; omega)]; simp [hb]
end Gp
set_option linter.unusedVariables false
set_option linter.unusedSimpArgs false
namespace Gp
open Gw Gq
/-! ### grids: lists of rows -/
def grid (w h : Nat) (g : Nat → Nat → Int) : List Int := (List.range h).flatMap fun y => (List.range w).map (g y)
theorem grid_len (w h : Nat) (g : Nat → Nat → Int) : (grid w h g).length = h * w := flat_len (f := fun y => (List.range w).map (g y)) (b := w) (fun y => by simp) h
theorem grid_get (w h : Nat) (g : Nat → Nat → Int) {x y : Nat} (hx : x < w) (hy : y < h) : (grid w h g).getD (y * w + x) 0 = g y x := by
  have := flat_get (f := fun y => (List.range w).map (g y)) (n := h) (q := y) (j := x) (t := g y x) hy (by simp [hx])
  have e : ((List.range y).flatMap fun y => (List.range w).map (g y)).length = y * w := grid_len w y g
  rw [e] at this
  unfold grid
  rw [List.getD_eq_getElem?_getD, this]; rfl
/-! ### stores into a list -/
def sets (l : List Int) (q : List (Nat × Int)) : List Int := q.foldl (fun l p => l.set p.1 p.2) l
/-! ### patterns that have the form of one -/
structure GForm (p : Pattern) (W H : Nat) : Prop where
  w : p.Width = W
  h : p.Height = H
  dW : 1 ≤ W ∧ W ≤ 40000
  dH : 1 ≤ H ∧ H ≤ 40000
  wh : H * W ≤ 40000
  len : p.Cells.length = H * W
theorem GForm.form {p : Pattern} {W H : Nat} (f : GForm p W H) : formB p = true := by
  have h1 := f.dW; have h2 := f.dH; have h3 := f.wh
  have e : p.Width * p.Height = ((H * W : Nat) : Int) := by rw [f.w, f.h, Int.natCast_mul, Int.mul_comm]
  unfold formB; rw [e, f.w, f.h, f.len]; exact decide_eq_true ⟨by omega, by omega, by omega, by omega, by omega, rfl⟩
theorem PForm.g {set : List Tile} {p : Pattern} {W H : Nat} (f : PForm set p W H) : GForm p W H := ⟨f.w, f.h, f.dW, f.dH, f.wh, f.len⟩
def cellG (p : Pattern) (W y x : Nat) : Int := p.Cells.getD (y * W + x) 0
theorem GForm.at {p : Pattern} {W H : Nat} (f : GForm p W H) {x y : Nat} (hx : x < W) (hy : y < H) : w64 (w64 ((y : Int) * (W : Int)) + (x : Int)) = ((y * W + x : Nat) : Int) ∧ (0 ≤ ((y * W + x : Nat) : Int) ∧ ((y * W + x : Nat) : Int) < (p.Cells.length : Int)) := by
  have hwh := f.wh
  have hp := place_lt hx hy
  refine ⟨?_, by omega, by rw [f.len]; omega⟩
  rw [← Int.natCast_mul, w64_id (n := ((y * W : Nat) : Int)) (by omega) (by omega), w64_id (by omega) (by omega)]; rfl
theorem succ64 {x : Nat} (h : x ≤ 1000000) : w64 ((x : Int) + 1) = ((x + 1 : Nat) : Int) := by rw [w64_id (by omega) (by omega)]; rfl
/-! ### the changed patterns -/
end Gp
set_option linter.unusedVariables false
set_option linter.unusedSimpArgs false
namespace Gp
open Gw Gq
/-! ### cuts -/
/-! ### patterns, repeated -/
/-! ### what is equal -/
end Gp
set_option linter.unusedVariables false
set_option linter.unusedSimpArgs false
namespace Gp
open Gw Gq
/-! ### changed sets -/
def mirT (t : Tile) : Tile := ⟨t.N, t.W, t.S, t.E⟩
def upT (t : Tile) : Tile := ⟨t.S, t.E, t.N, t.W⟩
def turnT (t : Tile) : Tile := ⟨t.W, t.N, t.E, t.S⟩
theorem take_succ_map {f : Tile → Tile} {s : List Tile} {i : Nat} (h : i < s.length) : (s.map f).take (i + 1) = (s.map f).take i ++ [f (s.getD i z_Tile)] := by
  rw [List.take_add_one, List.getElem?_eq_getElem (by simpa using h)]
  simp [List.getElem?_eq_getElem h]
theorem chset0 {s : List Tile} (hv : validT s = true) {k : Nat} (hk : 1006 ≤ k) : tile_Mirror k s = some (s.map mirT, 0) := by
  have hl : s.length ≤ 1000 := by unfold validT at hv; simp only [Bool.and_eq_true, decide_eq_true_eq] at hv; exact hv.1
  have := loop_to (F := fun k i l => tile_changed_at0.l0 k l i s) (S := fun i => (s.map mirT).take i) (n := s.length) (K := 0) (r := s.map mirT) (fun k i _ hi => by
    show tile_changed_at0.l0 (k + 1) ((s.map mirT).take i) i s = tile_changed_at0.l0 k ((s.map mirT).take (i + 1)) ((i + 1 : Nat) : Int) s
    rw [tile_changed_at0.l0, if_pos (by simpa using hi), if_pos (by omega), tile_changes, Option.bind_some, tile_changes_1, Option.bind_some, if_pos (by simp; omega), succ64 (by omega), take_succ_map hi, rdD_nat]; rfl) (fun k => by
    show tile_changed_at0.l0 (k + 1) ((s.map mirT).take s.length) s.length s = _
    rw [tile_changed_at0.l0, if_neg (by simp), ← List.length_map (f := mirT), List.take_length]) k (by omega)
  have this : tile_changed_at0.l0 k [] 0 s = _ := this
  unfold tile_Mirror tile_changed_at0
  rw [tile_valid s hk (by omega), hv, Option.bind_some, if_neg (by simp), this]; rfl
theorem chset1 {s : List Tile} (hv : validT s = true) {k : Nat} (hk : 1006 ≤ k) : tile_Upturn k s = some (s.map upT, 0) := by
  have hl : s.length ≤ 1000 := by unfold validT at hv; simp only [Bool.and_eq_true, decide_eq_true_eq] at hv; exact hv.1
  have := loop_to (F := fun k i l => tile_changed_at1.l0 k l i s) (S := fun i => (s.map upT).take i) (n := s.length) (K := 0) (r := s.map upT) (fun k i _ hi => by
    show tile_changed_at1.l0 (k + 1) ((s.map upT).take i) i s = tile_changed_at1.l0 k ((s.map upT).take (i + 1)) ((i + 1 : Nat) : Int) s
    rw [tile_changed_at1.l0, if_pos (by simpa using hi), if_pos (by omega), tile_changes, Option.bind_some, tile_changes_3, Option.bind_some, if_pos (by simp; omega), succ64 (by omega), take_succ_map hi, rdD_nat]; rfl) (fun k => by
    show tile_changed_at1.l0 (k + 1) ((s.map upT).take s.length) s.length s = _
    rw [tile_changed_at1.l0, if_neg (by simp), ← List.length_map (f := upT), List.take_length]) k (by omega)
  have this : tile_changed_at1.l0 k [] 0 s = _ := this
  unfold tile_Upturn tile_changed_at1
  rw [tile_valid s hk (by omega), hv, Option.bind_some, if_neg (by simp), this]; rfl
theorem chset2 {s : List Tile} (hv : validT s = true) {k : Nat} (hk : 1006 ≤ k) : tile_Turn k s = some (s.map turnT, 0) := by
  have hl : s.length ≤ 1000 := by unfold validT at hv; simp only [Bool.and_eq_true, decide_eq_true_eq] at hv; exact hv.1
  have := loop_to (F := fun k i l => tile_changed_at2.l0 k l i s) (S := fun i => (s.map turnT).take i) (n := s.length) (K := 0) (r := s.map turnT) (fun k i _ hi => by
    show tile_changed_at2.l0 (k + 1) ((s.map turnT).take i) i s = tile_changed_at2.l0 k ((s.map turnT).take (i + 1)) ((i + 1 : Nat) : Int) s
    rw [tile_changed_at2.l0, if_pos (by simpa using hi), if_pos (by omega), tile_changes, Option.bind_some, tile_changes_5, Option.bind_some, if_pos (by simp; omega), succ64 (by omega), take_succ_map hi, rdD_nat]; rfl) (fun k => by
    show tile_changed_at2.l0 (k + 1) ((s.map turnT).take s.length) s.length s = _
    rw [tile_changed_at2.l0, if_neg (by simp), ← List.length_map (f := turnT), List.take_length]) k (by omega)
  have this : tile_changed_at2.l0 k [] 0 s = _ := this
  unfold tile_Turn tile_changed_at2
  rw [tile_valid s hk (by omega), hv, Option.bind_some, if_neg (by simp), this]; rfl
structure Chg (f : Tile → Tile) : Prop where
  inj : ∀ a b, f a = f b → a = b
  col : ∀ t, colB (f t) = colB t
theorem chg_mir : Chg mirT := ⟨fun a b h => by cases a; cases b; simp only [mirT, Tile.mk.injEq] at h; obtain ⟨rfl, rfl, rfl, rfl⟩ := h; rfl, fun t => by unfold colB mirT; simp only; cases inCol t.N <;> cases inCol t.E <;> cases inCol t.S <;> cases inCol t.W <;> rfl⟩
theorem chg_up : Chg upT := ⟨fun a b h => by cases a; cases b; simp only [upT, Tile.mk.injEq] at h; obtain ⟨rfl, rfl, rfl, rfl⟩ := h; rfl, fun t => by unfold colB upT; simp only; cases inCol t.N <;> cases inCol t.E <;> cases inCol t.S <;> cases inCol t.W <;> rfl⟩
theorem getD_map (f : Tile → Tile) {s : List Tile} {i : Nat} (h : i < s.length) : (s.map f).getD i z_Tile = f (s.getD i z_Tile) := by simp [List.getElem?_eq_getElem h]
theorem Chg.valid {f : Tile → Tile} (c : Chg f) {s : List Tile} (hv : validT s = true) : validT (s.map f) = true := by
  unfold validT at hv ⊢
  simp only [Bool.and_eq_true, decide_eq_true_eq, List.all_eq_true, List.mem_range, List.length_map] at hv ⊢
  refine ⟨hv.1, fun i hi => ?_⟩
  have := hv.2 i hi
  unfold newB at this ⊢
  rw [getD_map f hi, ← List.map_take, c.col]
  simp only [Bool.and_eq_true, Bool.not_eq_true', decide_eq_false_iff_not] at this ⊢
  refine ⟨fun hm => this.1 ?_, this.2⟩
  obtain ⟨a, ha, he⟩ := List.mem_map.1 hm
  rw [← c.inj _ _ he]; exact ha
/-! ### how the tiles of a grid meet -/
def JP (W H : Nat) (round : Bool) (T : Nat → Nat → Tile) : Prop :=
  (∀ y x, y < H → x < W → (x + 1 < W ∨ round = true) → (T y x).E = (T y ((x + 1) % W)).W) ∧ (∀ y x, y < H → x < W → (y + 1 < H ∨ round = true) → (T y x).N = (T ((y + 1) % H) x).S)
theorem JP.congr {W H : Nat} {round : Bool} {T T' : Nat → Nat → Tile} (he : ∀ y x, y < H → x < W → T y x = T' y x) (h : JP W H round T) : JP W H round T' := by
  refine ⟨fun y x hy hx hr => ?_, fun y x hy hx hr => ?_⟩
  · rw [← he y x hy hx, ← he y _ hy (Nat.mod_lt _ (by omega))]; exact h.1 y x hy hx hr
  · rw [← he y x hy hx, ← he _ x (Nat.mod_lt _ (by omega)) hx]; exact h.2 y x hy hx hr
def GP (W H : Nat) (c : Nat → Nat → Int) : Pattern := ⟨W, H, grid W H c⟩
def TT (s : List Tile) (c : Nat → Nat → Int) (y x : Nat) : Tile := s.getD (c y x).toNat z_Tile
structure GOK (s : List Tile) (W H : Nat) (c : Nat → Nat → Int) (whole : Bool) : Prop where
  valid : validT s = true
  dW : 1 ≤ W ∧ W ≤ 40000
  dH : 1 ≤ H ∧ H ≤ 40000
  wh : H * W ≤ 40000
  cel : ∀ y x, y < H → x < W → 0 ≤ c y x ∧ c y x < (s.length : Int)
  fits : JP W H false (TT s c)
  round : whole = true ↔ JP W H true (TT s c)
theorem valid_len {s : List Tile} (hv : validT s = true) : s.length ≤ 1000 := by unfold validT at hv; simp only [Bool.and_eq_true, decide_eq_true_eq] at hv; exact hv.1
theorem GOK.congr {s : List Tile} {W H : Nat} {c c' : Nat → Nat → Int} {whole : Bool} (g : GOK s W H c whole) (he : ∀ y x, y < H → x < W → c y x = c' y x) : GOK s W H c' whole := by
  have ht : ∀ y x, y < H → x < W → TT s c y x = TT s c' y x := fun y x hy hx => by unfold TT; rw [he y x hy hx]
  exact ⟨g.valid, g.dW, g.dH, g.wh, fun y x hy hx => by rw [← he y x hy hx]; exact g.cel y x hy hx, g.fits.congr ht, g.round.trans ⟨fun h => h.congr ht, fun h => h.congr (fun y x hy hx => (ht y x hy hx).symm)⟩⟩
theorem TT_map {f : Tile → Tile} {s : List Tile} {c : Nat → Nat → Int} {y x : Nat} (h : 0 ≤ c y x ∧ c y x < (s.length : Int)) : TT (s.map f) c y x = f (TT s c y x) := by
  unfold TT
  rw [getD_map f (by omega)]
/-! mirrored -/
theorem mod_back {W x : Nat} (hx : x < W) : (W - 1 - (x + 1) % W + 1) % W = W - 1 - x ∧ W - 1 - (x + 1) % W < W ∧ (x + 1 < W → W - 1 - (x + 1) % W + 1 < W) := by
  by_cases h : x + 1 < W
  · rw [Nat.mod_eq_of_lt h, show W - 1 - (x + 1) + 1 = W - 1 - x by omega, Nat.mod_eq_of_lt (by omega)]; omega
  · have e : x + 1 = W := by omega
    rw [e, Nat.mod_self, show W - 1 - 0 + 1 = W by omega, Nat.mod_self]; omega
theorem JP.up {W H : Nat} {round : Bool} {T : Nat → Nat → Tile} (h : JP W H round T) : JP W H round (fun y x => upT (T (H - 1 - y) x)) := by
  refine ⟨fun y x hy hx hr => ?_, fun y x hy hx hr => ?_⟩
  · exact h.1 (H - 1 - y) x (by omega) hx hr
  · obtain ⟨e, hlt, hi⟩ := mod_back hy
    have := h.2 (H - 1 - (y + 1) % H) x hlt hx (hr.imp hi id)
    rw [e] at this
    exact this.symm
theorem GOK.up {s : List Tile} {W H : Nat} {c : Nat → Nat → Int} {whole : Bool} (g : GOK s W H c whole) : GOK (s.map upT) W H (fun y x => c (H - 1 - y) x) whole := by
  have hdH := g.dH
  have ht : ∀ y x, y < H → x < W → upT (TT s c (H - 1 - y) x) = TT (s.map upT) (fun y x => c (H - 1 - y) x) y x := fun y x hy hx => by
    exact (TT_map (f := upT) (c := fun y x => c (H - 1 - y) x) (y := y) (x := x) (g.cel (H - 1 - y) x (by omega) hx)).symm
  refine ⟨chg_up.valid g.valid, g.dW, g.dH, g.wh, fun y x hy hx => by rw [List.length_map]; exact g.cel _ x (by omega) hx, g.fits.up.congr ht, ?_⟩
  rw [g.round]
  constructor
  · exact fun h => h.up.congr ht
  · intro h
    have := (h.congr (fun y x hy hx => (ht y x hy hx).symm)).up
    exact this.congr fun y x hy hx => by
      rw [show H - 1 - (H - 1 - y) = y by omega]; rfl
theorem GP.g {W H : Nat} {c : Nat → Nat → Int} (dW : 1 ≤ W ∧ W ≤ 40000) (dH : 1 ≤ H ∧ H ≤ 40000) (wh : H * W ≤ 40000) : GForm (GP W H c) W H := ⟨rfl, rfl, dW, dH, wh, grid_len W H c⟩
theorem GP.cell {W H : Nat} (c : Nat → Nat → Int) {y x : Nat} (hy : y < H) (hx : x < W) : cellG (GP W H c) W y x = c y x := grid_get W H c hx hy
end Gp
set_option linter.unusedVariables false
set_option linter.unusedSimpArgs false
namespace Gp
open Gw Gq
theorem turn4 (s : List Tile) : (((s.map turnT).map turnT).map turnT).map turnT = s := by
  simp only [List.map_map]
  have : (turnT ∘ (turnT ∘ turnT ∘ turnT)) = id := by funext t; rfl
  rw [this, List.map_id]
end Gp
set_option linter.unusedVariables false
set_option linter.unusedSimpArgs false
namespace Gq
theorem loop_list {α σ τ : Type} {F : Nat → Int → σ → Option τ} (xs : List α) (step : σ → α → σ) (K : Nat) (P : Nat → σ → Prop) (fin : σ → τ)
    (hs : ∀ k i s (h : i < xs.length), K ≤ k → P i s → F (k + 1) (i : Int) s = F k ((i + 1 : Nat) : Int) (step s xs[i]) ∧ P (i + 1) (step s xs[i])) (he : ∀ k s, P xs.length s → F (k + 1) (xs.length : Int) s = some (fin s)) :
    ∀ (s0 : σ), P 0 s0 → ∀ k, xs.length + K < k → F k 0 s0 = some (fin (xs.foldl step s0)) := by
  have key : ∀ d i s k, i + d = xs.length → P i s → d + K < k → F k (i : Int) s = some (fin ((xs.drop i).foldl step s)) := by
    intro d
    induction d with
    | zero =>
      intro i s k hi hp hk
      obtain ⟨k, rfl⟩ : ∃ m, k = m + 1 := ⟨k - 1, by omega⟩
      have : i = xs.length := by omega
      subst this
      rw [he k s hp, List.drop_length]; rfl
    | succ d ih =>
      intro i s k hi hp hk
      obtain ⟨k, rfl⟩ : ∃ m, k = m + 1 := ⟨k - 1, by omega⟩
      have hlt : i < xs.length := by omega
      obtain ⟨h1, h2⟩ := hs k i s hlt (by omega) hp
      rw [h1, ih (i + 1) _ k (by omega) h2 (by omega), List.drop_eq_getElem_cons hlt]; rfl
  intro s0 h0 k hk
  have := key xs.length 0 s0 k (by omega) h0 hk
  simpa using this
end Gq
namespace Gp
open Gw Gq
/-! ### words, rows -/
def tat (set : List Tile) (i : Nat) : Tile := set.getD i z_Tile
def cz (c : List Nat) : List Int := c.map fun (i : Nat) => (i : Int)
def wordOf (l : List Int) : A8_Int := ⟨l.getD 0 0, l.getD 1 0, l.getD 2 0, l.getD 3 0, l.getD 4 0, l.getD 5 0, l.getD 6 0, l.getD 7 0⟩
def mkR (set : List Tile) (c : List Nat) : Row := ⟨cz c, wordOf (c.map fun i => (tat set i).S), wordOf (c.map fun i => (tat set i).N), (tat set (c.headD 0)).W, (tat set (c.getLastD 0)).E⟩
def follows (set : List Tile) (c : List Nat) (i : Nat) : Bool := match c.getLast? with
  | none => true
  | some j => (tat set j).E == (tat set i).W
def rowsL (set : List Tile) : Nat → List Nat → List (List Nat)
  | 0, c => [c]
  | n + 1, c => ((List.range set.length).filter (follows set c)).flatMap fun i => rowsL set n (c ++ [i])
theorem wordOf_get (l : List Int) (i : Nat) (hi : i < 8) : (wordOf l).get i = l.getD i 0 := by
  have : i = 0 ∨ i = 1 ∨ i = 2 ∨ i = 3 ∨ i = 4 ∨ i = 5 ∨ i = 6 ∨ i = 7 := by omega
  rcases this with rfl | rfl | rfl | rfl | rfl | rfl | rfl | rfl <;> rfl
theorem wordOf_inj {a b : List Int} (ha : a.length ≤ 8) (h : a.length = b.length) : wordOf a = wordOf b ↔ a = b := by
  constructor
  · intro e
    apply List.ext_getElem? 
    intro i
    by_cases hi : i < a.length
    · have h1 := wordOf_get a i (by omega)
      have h2 := wordOf_get b i (by omega)
      rw [e, h2] at h1
      rw [List.getElem?_eq_getElem hi, List.getElem?_eq_getElem (by omega)]
      simp only [List.getD, List.getElem?_eq_getElem hi, List.getElem?_eq_getElem (show i < b.length by omega), Option.getD_some] at h1
      rw [h1]
    · rw [List.getElem?_eq_none (by omega), List.getElem?_eq_none (by omega)]
  · intro e; rw [e]
theorem wordOf_set (l : List Int) (v : Int) (hl : l.length < 8) : (wordOf l).set l.length v = wordOf (l ++ [v]) := by
  have : l.length = 0 ∨ l.length = 1 ∨ l.length = 2 ∨ l.length = 3 ∨ l.length = 4 ∨ l.length = 5 ∨ l.length = 6 ∨ l.length = 7 := by omega
  match l, this with
  | [], _ => rfl
  | [a], _ => rfl
  | [a, b], _ => rfl
  | [a, b, c], _ => rfl
  | [a, b, c, d], _ => rfl
  | [a, b, c, d, e], _ => rfl
  | [a, b, c, d, e, f], _ => rfl
  | [a, b, c, d, e, f, g], _ => rfl
  | _ :: _ :: _ :: _ :: _ :: _ :: _ :: _ :: l, h => simp at h
theorem rowOf_l0 (set : List Tile) (c : List Nat) (hc : ∀ i ∈ c, i < set.length) (h8 : c.length ≤ 8) {k : Nat} (hk : c.length < k) :
    rows_rowOf.l0 k (A8_Int.mk 0 0 0 0 0 0 0 0) (A8_Int.mk 0 0 0 0 0 0 0 0) 0 set (cz c) = some (wordOf (c.map fun i => (tat set i).S), wordOf (c.map fun i => (tat set i).N)) := by
  have key : ∀ d i k, i + d = c.length → d < k → rows_rowOf.l0 k (wordOf ((c.take i).map fun i => (tat set i).S)) (wordOf ((c.take i).map fun i => (tat set i).N)) (i : Int) set (cz c) = some (wordOf (c.map fun i => (tat set i).S), wordOf (c.map fun i => (tat set i).N)) := by
    intro d
    induction d with
    | zero =>
      intro i k hi hk
      obtain ⟨k, rfl⟩ : ∃ m, k = m + 1 := ⟨k - 1, by omega⟩
      have : i = c.length := by omega
      subst this
      rw [rows_rowOf.l0, if_neg (by simp [cz]), List.take_length]
    | succ d ih =>
      intro i k hi hk
      obtain ⟨k, rfl⟩ : ∃ m, k = m + 1 := ⟨k - 1, by omega⟩
      have hlt : i < c.length := by omega
      have hci := hc c[i] (List.getElem_mem _)
      have hz : rdD (cz c) (i : Int) 0 = ((c[i] : Nat) : Int) := by rw [rdD_get (by simpa [cz] using hlt)]; simp [cz]
      rw [rows_rowOf.l0, if_pos (by simp [cz]; omega), if_pos (by simp [cz]; omega), hz, if_pos (by omega), if_pos (by omega), w64_id (by omega) (by omega), rdD_nat]
      have e1 := wordOf_set ((c.take i).map fun i => (tat set i).S) (tat set c[i]).S (by simp; omega)
      have e2 := wordOf_set ((c.take i).map fun i => (tat set i).N) (tat set c[i]).N (by simp; omega)
      have hlen : ((c.take i).map fun i => (tat set i).S).length = i := by simp; omega
      have hlen2 : ((c.take i).map fun i => (tat set i).N).length = i := by simp; omega
      rw [hlen] at e1; rw [hlen2] at e2
      have ht : c.take (i + 1) = c.take i ++ [c[i]] := by rw [List.take_add_one, List.getElem?_eq_getElem hlt]; rfl
      show rows_rowOf.l0 k (A8_Int.set _ i (tat set c[i]).S) (A8_Int.set _ i (tat set c[i]).N) _ set (cz c) = _
      rw [e1, e2]
      have := ih (i + 1) k (by omega) (by omega)
      rw [ht, List.map_append, List.map_append] at this
      exact this
  exact key c.length 0 k (by omega) hk
theorem rowOf_eq (set : List Tile) (c : List Nat) (hc : ∀ i ∈ c, i < set.length) (h8 : c.length ≤ 8) (h1 : 1 ≤ c.length) {k : Nat} (hk : c.length < k) : rows_rowOf k set (cz c) = some (mkR set c) := by
  have hl : (cz c).length = c.length := by simp [cz]
  have h0 : rdD (cz c) (0 : Int) 0 = ((c.headD 0 : Nat) : Int) := by
    cases c with
    | nil => simp at h1
    | cons a r => rfl
  have hn : c ≠ [] := by intro e; rw [e] at h1; simp at h1
  have hh : c.headD 0 < set.length := by
    cases c with
    | nil => simp at h1
    | cons a r => exact hc a (by simp)
  have hlast : c.getLastD 0 < set.length := by
    rw [List.getLastD_eq_getLast?, List.getLast?_eq_some_getLast hn]; exact hc _ (List.getLast_mem hn)
  have hw : w64 (((cz c).length : Int) - 1) = ((c.length - 1 : Nat) : Int) := by rw [hl, w64_id (by omega) (by omega)]; omega
  have hz : rdD (cz c) (((c.length - 1 : Nat) : Int)) 0 = ((c.getLastD 0 : Nat) : Int) := by
    rw [rdD_get (by rw [hl]; omega)]
    rw [List.getLastD_eq_getLast?, List.getLast?_eq_some_getLast hn, Option.getD_some, List.getLast_eq_getElem]
    simp [cz]
  unfold rows_rowOf
  rw [rowOf_l0 set c hc h8 hk, hw, hz, h0, if_pos (by simp [cz]; omega), Option.bind_some, if_pos (by rw [hl]; omega), if_pos (by omega), if_pos (by rw [hl]; omega), if_pos (by omega), rdD_nat, rdD_nat]
  rfl
theorem all1 (set : List Tile) (w : Nat) (h1 : 1 ≤ w) (h8 : w ≤ 8) (hl : set.length ≤ 1000000) : ∀ (n x : Nat) (c : List Nat) (out : List Row) (cells : List Int) (k : Nat), x + n = w → c.length = x → (∀ i ∈ c, i < set.length) → cells.length = w → cells.take x = cz c →
    out.length + (rowsL set n c).length ≤ 100000000000 → n + set.length + 10 < k → ∃ cells', rows_All_1 k (x : Int) (w : Int) out set cells = some (out ++ (rowsL set n c).map (mkR set), cells') ∧ cells'.length = w ∧ cells'.take x = cz c := by
  intro n
  induction n with
  | zero =>
    intro x c out cells k hx hc hcs hcl hct hb hk
    obtain ⟨k, rfl⟩ : ∃ m, k = m + 1 := ⟨k - 1, by omega⟩
    have hxw : x = w := by omega
    subst hxw
    have he : cells = cz c := by rw [← hct, ← hcl, List.take_length]
    refine ⟨cells, ?_, hcl, hct⟩
    rw [rows_All_1, if_pos (by simp), he, rowOf_eq set c hcs (by omega) (by omega) (by omega), Option.bind_some, if_pos (by simp [rowsL] at hb; omega)]
    rfl
  | succ n ih =>
    intro x c out cells k hx hc hcs hcl hct hb hk
    obtain ⟨k, rfl⟩ : ∃ m, k = m + 1 := ⟨k - 1, by omega⟩
    have key : ∀ d i k' (out : List Row) (cells : List Int), i + d = set.length → d < k' → cells.length = w → cells.take x = cz c → out.length + (((List.range' i d).filter (follows set c)).flatMap fun i => rowsL set n (c ++ [i])).length ≤ 100000000000 →
        ∃ cells', rows_All_1.l0 k' out cells (i : Int) (x : Int) (w : Int) set (rows_All_1 k) = some (out ++ (((List.range' i d).filter (follows set c)).flatMap fun i => rowsL set n (c ++ [i])).map (mkR set), cells') ∧ cells'.length = w ∧ cells'.take x = cz c := by
      intro d
      induction d with
      | zero =>
        intro i k' out cells hi hk' hcl hct hb
        obtain ⟨k', rfl⟩ : ∃ m, k' = m + 1 := ⟨k' - 1, by omega⟩
        have : i = set.length := by omega
        subst this
        refine ⟨cells, ?_, hcl, hct⟩
        rw [rows_All_1.l0, if_neg (by simp)]; simp
      | succ d ihd =>
        intro i k' out cells hi hk' hcl hct hb
        obtain ⟨k', rfl⟩ : ∃ m, k' = m + 1 := ⟨k' - 1, by omega⟩
        have hlt : i < set.length := by omega
        have hcond : (if ((x : Int) == 0) = true then (some true) else (if 0 ≤ w64 ((x : Int) - 1) ∧ w64 ((x : Int) - 1) < (cells.length : Int) then (if 0 ≤ (rdD cells (w64 ((x : Int) - 1)) 0) ∧ (rdD cells (w64 ((x : Int) - 1)) 0) < (set.length : Int) then (some (((rdD set (rdD cells (w64 ((x : Int) - 1)) 0) z_Tile).E) == ((rdD set (i : Int) z_Tile).W))) else none) else none)) = some (follows set c i) := by
          by_cases h0 : x = 0
          · subst h0
            have : c = [] := List.eq_nil_of_length_eq_zero hc
            subst this
            rfl
          · have hn : c ≠ [] := by intro e; rw [e] at hc; simp at hc; omega
            have hw : w64 ((x : Int) - 1) = ((x - 1 : Nat) : Int) := by rw [w64_id (by omega) (by omega)]; omega
            have hz : rdD cells (((x - 1 : Nat) : Int)) 0 = ((c.getLast hn : Nat) : Int) := by
              rw [rdD_get (by omega)]
              have : cells[x - 1]'(by omega) = (cells.take x)[x - 1]'(by simp; omega) := by simp
              rw [this]
              simp only [hct, List.getLast_eq_getElem]
              simp [cz, hc]
            have hm := hcs _ (List.getLast_mem hn)
            rw [if_neg (by simp; omega), hw, if_pos (by omega), hz, if_pos (by omega), rdD_nat, rdD_nat]
            unfold follows
            rw [List.getLast?_eq_some_getLast hn]; rfl
        have hwi : w64 ((i : Int) + 1) = ((i + 1 : Nat) : Int) := by rw [w64_id (by omega) (by omega)]; rfl
        rw [rows_All_1.l0, if_pos (by simpa using hlt), if_pos (by omega), hcond, Option.bind_some, hwi]
        rw [List.range'_succ, List.filter_cons] at hb ⊢
        cases hf : follows set c i
        · rw [hf] at hb
          simp only [Bool.false_eq_true, if_false] at hb ⊢
          rw [Option.bind_some]
          exact ihd (i + 1) k' out cells (by omega) (by omega) hcl hct hb
        · rw [hf] at hb
          simp only [if_true, List.flatMap_cons, List.length_append] at hb ⊢
          have hset : (cells.set x (i : Int)).take (x + 1) = cz (c ++ [i]) := by
            rw [List.take_add_one, List.take_set_of_le (Nat.le_refl _), hct, List.getElem?_set_self (by omega)]
            simp [cz]
          have hw1 : w64 ((x : Int) + 1) = ((x + 1 : Nat) : Int) := by rw [w64_id (by omega) (by omega)]; rfl
          obtain ⟨cells1, e1, l1, t1⟩ := ih (x + 1) (c ++ [i]) out (cells.set x (i : Int)) k (by omega) (by simp [hc]) (fun j hj => by
            rcases List.mem_append.1 hj with hj | hj
            · exact hcs j hj
            · simp at hj; omega) (by simp [hcl]) hset (by omega) (by omega)
          have t1' : cells1.take x = cz c := by
            have : cells1.take x = (cells1.take (x + 1)).take x := by rw [List.take_take, Nat.min_eq_left (by omega)]
            rw [this, t1]
            simp [cz, ← hc]
          obtain ⟨cells2, e2, l2, t2⟩ := ihd (i + 1) k' (out ++ (rowsL set n (c ++ [i])).map (mkR set)) cells1 (by omega) (by omega) l1 t1' (by simp only [List.length_append, List.length_map]; omega)
          refine ⟨cells2, ?_, l2, t2⟩
          rw [if_pos (by omega), hw1]
          simp only [Int.toNat_natCast]
          rw [e1, Option.bind_some, Option.bind_some]
          show rows_All_1.l0 k' _ cells1 ((i + 1 : Nat) : Int) _ _ _ _ = _
          rw [e2, List.map_append, List.append_assoc]
    rw [rowsL] at hb
    rw [List.range_eq_range'] at hb
    obtain ⟨cells', e, l, t⟩ := key set.length 0 k out cells (by omega) (by omega) hcl hct hb
    refine ⟨cells', ?_, l, t⟩
    rw [rows_All_1, if_neg (by simp; omega)]
    have e' : rows_All_1.l0 k out cells 0 (x : Int) (w : Int) set (rows_All_1 k) = _ := e
    rw [e', Option.bind_some, rowsL, List.range_eq_range']
theorem rowsL_len (set : List Tile) : ∀ (n : Nat) (c : List Nat), (rowsL set n c).length ≤ set.length ^ n
  | 0, c => by simp [rowsL]
  | n + 1, c => by
    rw [rowsL, List.length_flatMap]
    have : ∀ l : List Nat, (l.map fun i => (rowsL set n (c ++ [i])).length).sum ≤ l.length * set.length ^ n := by
      intro l
      induction l with
      | nil => simp
      | cons a r ih =>
        simp only [List.map_cons, List.sum_cons, List.length_cons]
        have := rowsL_len set n (c ++ [a])
        rw [Nat.add_mul]; omega
    refine Nat.le_trans (this _) ?_
    have h2 : ((List.range set.length).filter (follows set c)).length ≤ set.length := by
      have := List.length_filter_le (follows set c) (List.range set.length); simpa using this
    rw [Nat.pow_succ, Nat.mul_comm (set.length ^ n)]
    exact Nat.mul_le_mul_right _ h2
def allR (set : List Tile) (w : Nat) : List Row := (rowsL set w []).map (mkR set)
theorem all_eq (set : List Tile) (w : Nat) (h1 : 1 ≤ w) (h8 : w ≤ 8) (hl : set.length ≤ 1000000) (hf : set.length ^ w ≤ 100000000000) {k : Nat} (hk : set.length + 20 < k) : rows_All k set (w : Int) = some (allR set w) := by
  have hb := rowsL_len set w []
  obtain ⟨cells, e, _, _⟩ := all1 set w h1 h8 hl w 0 [] [] (List.replicate w 0) k (by omega) rfl (fun i h => by cases h) (by simp) (by simp [cz]) (by simp; omega) (by omega)
  unfold rows_All
  have e' : rows_All_1 k 0 (w : Int) [] set (List.replicate w 0) = _ := e
  rw [if_pos (by omega), Int.toNat_natCast, e']; rfl
/-! few -/
def fewB (n w : Nat) : Bool := decide ((max n 1) ^ w ≤ 5000)
theorem few_eq (set : List Tile) (w : Nat) (hw : w ≤ 1000) (hl : set.length ≤ 1000000) {k : Nat} (hk : w < k) : rows_Few k set (w : Int) = some (fewB set.length w) := by
  have hm : maxI (set.length : Int) 1 = ((max set.length 1 : Nat) : Int) := by unfold maxI; split <;> omega
  obtain ⟨m, hmd⟩ : ∃ m, max set.length 1 = m := ⟨_, rfl⟩
  have hm1 : 1 ≤ m := by omega
  have hm2 : m ≤ 1000000 := by omega
  have key : ∀ d i k, i + d = w → d < k → m ^ i ≤ 5000 → rows_Few.l0 k ((m ^ i : Nat) : Int) (i : Int) set (w : Int) = some (if m ^ w ≤ 5000 then .inr () else .inl false) := by
    intro d
    induction d with
    | zero =>
      intro i k hi hk hp
      obtain ⟨k, rfl⟩ : ∃ m, k = m + 1 := ⟨k - 1, by omega⟩
      have : i = w := by omega
      subst this
      rw [rows_Few.l0, if_neg (by simp), if_pos hp]
    | succ d ih =>
      intro i k hi hk hp
      obtain ⟨k, rfl⟩ : ∃ m, k = m + 1 := ⟨k - 1, by omega⟩
      have hpp : m ^ i * m ≤ 5000 * 1000000 := Nat.mul_le_mul hp hm2
      have e : w64 (((m ^ i : Nat) : Int) * maxI (set.length : Int) 1) = ((m ^ (i + 1) : Nat) : Int) := by
        rw [hm, hmd, ← Int.natCast_mul, Nat.pow_succ, w64_id (by omega) (by omega)]
      have hle : m ^ (i + 1) ≤ m ^ w := Nat.pow_le_pow_right hm1 (by omega)
      obtain ⟨q, hq⟩ : ∃ q, m ^ (i + 1) = q := ⟨_, rfl⟩
      rw [rows_Few.l0, if_pos (by simp; omega), e]
      have hwi : w64 ((i : Int) + 1) = ((i + 1 : Nat) : Int) := by rw [w64_id (by omega) (by omega)]; rfl
      by_cases h5 : q ≤ 5000
      · rw [if_neg (by rw [hq]; simp; omega), hwi]
        exact ih (i + 1) k (by omega) (by omega) (by rw [hq]; exact h5)
      · rw [if_pos (by rw [hq]; simp; omega), if_neg]
        intro hw5
        omega
  have := key w 0 k (by omega) hk (by simp)
  have h0 : rows_Few.l0 k 1 0 set (w : Int) = _ := this
  unfold rows_Few fewB
  rw [h0, hmd]
  by_cases h5 : m ^ w ≤ 5000
  · rw [if_pos h5]; simp [sumb, h5]
  · rw [if_neg h5]; simp [sumb, h5]
end Gp
set_option linter.unusedVariables false
set_option linter.unusedSimpArgs false
namespace Gq
open Gw
theorem mget_mput {κ ν : Type} [DecidableEq κ] (x y : κ) (z v : ν) : ∀ l : List (κ × ν), mget x z (mput y v l) = if x = y then v else mget x z l
  | [] => by simp [mput, mget]
  | p :: r => by
    simp only [mput]
    by_cases h : y = p.1
    · rw [if_pos h]
      simp only [mget]
      by_cases hx : x = y
      · rw [if_pos hx, if_pos hx]
      · rw [if_neg hx, if_neg hx, if_neg (fun e => hx (e.trans h.symm))]
    · rw [if_neg h]
      simp only [mget]
      by_cases hx : x = p.1
      · rw [if_pos hx, if_pos hx, if_neg (fun e => h (e.symm.trans hx))]
      · rw [if_neg hx, if_neg hx]; exact mget_mput x y z v r
end Gq
namespace Gp
open Gw Gq
/-! ### rectangles that are filled -/
def atB (l : List Int) (i : Nat) (c : Int) : Bool := decide (l.length = 0) || l.getD i 0 == c
theorem at_eq' (l : List Int) (i : Nat) (c : Int) (h : l.length = 0 ∨ i < l.length) : fill_at l (i : Int) c = some (atB l i c) := by
  unfold fill_at atB
  by_cases h0 : l.length = 0
  · rw [if_pos (by simp [h0])]; simp [h0]
  · rw [if_neg (by simp; simpa using h0), if_pos (by omega), rdD_nat]; simp [h0]
structure EdgeOK (e : Edges) (w h : Nat) : Prop where
  n : e.North.length = 0 ∨ e.North.length = w
  s : e.South.length = 0 ∨ e.South.length = w
  ea : e.East.length = 0 ∨ e.East.length = h
  we : e.West.length = 0 ∨ e.West.length = h
def colE (e : Edges) (h : Nat) (r : Row) (y x : Nat) : Bool := (!(decide (y = 0)) || atB e.South x (r.South.get x)) && (!(decide (y + 1 = h)) || atB e.North x (r.North.get x))
def alB (e : Edges) (w h : Nat) (r : Row) (y : Nat) : Bool := atB e.West y r.West && atB e.East y r.East && (List.range w).all (colE e h r y)
theorem allows_eq {e : Edges} {w h : Nat} (he : EdgeOK e w h) (hw : w ≤ 8) (hh : h ≤ 1000) (R : List Row) (r : Row) {y : Nat} (hy : y < h) {k : Nat} (hk : w < k) : fill_job_allows k ⟨R, w, h, e⟩ r (y : Int) = some (alB e w h r y) := by
  have hl := loop_all (F := fun k x (_ : Unit) => fill_job_allows.l0 k x ⟨R, w, h, e⟩ r (y : Int)) (S := fun _ => ()) (b := colE e h r y) (n := w) (K := 0) (r := false) (e := ()) (fun k x _ hx => by
    show fill_job_allows.l0 (k + 1) x ⟨R, w, h, e⟩ r (y : Int) = if colE e h r y x = true then fill_job_allows.l0 k ((x + 1 : Nat) : Int) ⟨R, w, h, e⟩ r (y : Int) else _
    have hwx : w64 ((x : Int) + 1) = ((x + 1 : Nat) : Int) := by rw [w64_id (by omega) (by omega)]; rfl
    have hwh : w64 ((h : Int) - 1) = ((h - 1 : Nat) : Int) := by rw [w64_id (by omega) (by omega)]; omega
    have hx8 : 0 ≤ (x : Int) ∧ (x : Int) < 8 := by omega
    have hS := at_eq' e.South x (r.South.get x) (he.s.imp id (fun h => by omega))
    have hN := at_eq' e.North x (r.North.get x) (he.n.imp id (fun h => by omega))
    rw [fill_job_allows.l0, if_pos (by simpa using hx), hwx, hwh]
    simp only [if_pos hx8, hS, hN, Option.bind_some]
    have e1 : ((y : Int) == ((h - 1 : Nat) : Int)) = decide (y + 1 = h) := by
      rw [Bool.eq_iff_iff]; simp; omega
    have e0 : ((y : Int) == 0) = decide (y = 0) := by rw [Bool.eq_iff_iff]; simp
    rw [e1, e0]
    unfold colE
    cases decide (y = 0) <;> cases decide (y + 1 = h) <;> cases atB e.South x (r.South.get x) <;> cases atB e.North x (r.North.get x) <;> simp) (fun k => by
    show fill_job_allows.l0 (k + 1) w ⟨R, w, h, e⟩ r (y : Int) = _
    rw [fill_job_allows.l0, if_neg (by simp)]) k (by omega)
  have h0 : fill_job_allows.l0 k 0 ⟨R, w, h, e⟩ r (y : Int) = some (if (List.range w).all (colE e h r y) = true then .inr () else .inl false) := hl
  unfold fill_job_allows alB
  rw [at_eq' e.West y r.West (he.we.imp id (fun h => by omega)), at_eq' e.East y r.East (he.ea.imp id (fun h => by omega)), h0]
  simp only [Option.bind_some]
  cases atB e.West y r.West <;> cases atB e.East y r.East <;> cases (List.range w).all (colE e h r y) <;> simp [sumb]
end Gp
set_option linter.unusedVariables false
set_option linter.unusedSimpArgs false
namespace Gp
open Gw Gq
/-! the whole function -/
def sidesB (e : Edges) (w h : Int) : Bool := (decide (e.North.length = 0) || decide ((e.North.length : Int) = w)) && (decide (e.South.length = 0) || decide ((e.South.length : Int) = w)) && (decide (e.East.length = 0) || decide ((e.East.length : Int) = h)) && (decide (e.West.length = 0) || decide ((e.West.length : Int) = h))
theorem begin_l0 (e : Edges) (w h : Int) (k : Nat) : fill_begin.l0 (k + 5) 0 w h e = some (if sidesB e w h = true then .inr () else .inl (none, 2)) := by
  have hside : ∀ (l : List Int) (n : Int), ((((l.length : Int) != 0) && ((l.length : Int) != n)) = !(decide (l.length = 0) || decide ((l.length : Int) = n))) := fun l n => by
    rw [Bool.eq_iff_iff]; simp
  have h1 : w64 (0 + 1) = 1 := by rw [w64_id (by omega) (by omega)]; rfl
  have h2 : w64 (1 + 1) = 2 := by rw [w64_id (by omega) (by omega)]; rfl
  have h3 : w64 (2 + 1) = 3 := by rw [w64_id (by omega) (by omega)]; rfl
  have h4 : w64 (3 + 1) = 4 := by rw [w64_id (by omega) (by omega)]; rfl
  unfold sidesB
  rw [fill_begin.l0, if_pos (by simp), if_pos (by simp), show rdD [(S_side_n.mk e.North w), (S_side_n.mk e.South w), (S_side_n.mk e.East h), (S_side_n.mk e.West h)] 0 z_S_side_n = S_side_n.mk e.North w from rfl, h1, hside]
  cases ha : (decide (e.North.length = 0) || decide ((e.North.length : Int) = w))
  · simp
  rw [if_neg (by simp), fill_begin.l0, if_pos (by simp), if_pos (by simp), show rdD [(S_side_n.mk e.North w), (S_side_n.mk e.South w), (S_side_n.mk e.East h), (S_side_n.mk e.West h)] 1 z_S_side_n = S_side_n.mk e.South w from rfl, h2, hside]
  cases hb : (decide (e.South.length = 0) || decide ((e.South.length : Int) = w))
  · simp
  rw [if_neg (by simp), fill_begin.l0, if_pos (by simp), if_pos (by simp), show rdD [(S_side_n.mk e.North w), (S_side_n.mk e.South w), (S_side_n.mk e.East h), (S_side_n.mk e.West h)] 2 z_S_side_n = S_side_n.mk e.East h from rfl, h3, hside]
  cases hc : (decide (e.East.length = 0) || decide ((e.East.length : Int) = h))
  · simp
  rw [if_neg (by simp), fill_begin.l0, if_pos (by simp), if_pos (by simp), show rdD [(S_side_n.mk e.North w), (S_side_n.mk e.South w), (S_side_n.mk e.East h), (S_side_n.mk e.West h)] 3 z_S_side_n = S_side_n.mk e.West h from rfl, h4, hside]
  cases hd : (decide (e.West.length = 0) || decide ((e.West.length : Int) = h))
  · simp
  rw [if_neg (by simp), fill_begin.l0, if_neg (by simp)]
  simp
theorem max_pow {n w : Nat} (h : fewB n w = true) : n ^ w ≤ 5000 := by
  unfold fewB at h
  rw [decide_eq_true_eq] at h
  exact Nat.le_trans (Nat.pow_le_pow_left (Nat.le_max_left n 1) w) h
theorem allR_len (set : List Tile) (w : Nat) : (allR set w).length ≤ set.length ^ w := by
  unfold allR; rw [List.length_map]; exact rowsL_len set w []
end Gp
set_option linter.unusedVariables false
set_option linter.unusedSimpArgs false
namespace Gp
open Gw Gq
/-! ### rows and patterns -/
theorem mem_rowsL0 (set : List Tile) : ∀ (n : Nat) (pre c : List Nat), c ∈ rowsL set n pre ↔ c.take pre.length = pre ∧ c.length = pre.length + n ∧ ∀ j, pre.length ≤ j → j < c.length → c.getD j 0 < set.length ∧ follows set (c.take j) (c.getD j 0) = true
  | 0, pre, c => by
    rw [rowsL, List.mem_singleton]
    constructor
    · intro h; subst h; exact ⟨List.take_length, rfl, fun j h1 h2 => by omega⟩
    · rintro ⟨h1, h2, _⟩
      rw [← h1, List.take_of_length_le (by omega)]
  | n + 1, pre, c => by
    rw [rowsL, List.mem_flatMap]
    constructor
    · rintro ⟨i, hi, hc⟩
      rw [List.mem_filter, List.mem_range] at hi
      obtain ⟨h1, h2, h3⟩ := (mem_rowsL0 set n (pre ++ [i]) c).1 hc
      rw [List.length_append, List.length_singleton] at h1 h2 h3
      have hp : c.take pre.length = pre := by
        have : c.take pre.length = (c.take (pre.length + 1)).take pre.length := by rw [List.take_take, Nat.min_eq_left (by omega)]
        rw [this, h1]; simp
      refine ⟨hp, by omega, fun j hj1 hj2 => ?_⟩
      by_cases e : j = pre.length
      · subst e
        have hg : c.getD pre.length 0 = i := by
          have h5 : (c.take (pre.length + 1))[pre.length]? = some i := by rw [h1]; simp
          rw [List.getElem?_take, if_pos (by omega)] at h5
          rw [List.getD_eq_getElem?_getD, h5]; rfl
        rw [hg, hp]; exact hi
      · exact h3 j (by omega) hj2
    · rintro ⟨h1, h2, h3⟩
      have hlt : pre.length < c.length := by omega
      obtain ⟨h4, h5⟩ := h3 pre.length (Nat.le_refl _) hlt
      rw [h1] at h5
      refine ⟨c.getD pre.length 0, ?_, (mem_rowsL0 set n _ c).2 ⟨?_, by simp; omega, fun j hj1 hj2 => h3 j (by simp at hj1; omega) hj2⟩⟩
      · rw [List.mem_filter, List.mem_range]; exact ⟨h4, h5⟩
      · rw [List.length_append, List.length_singleton, List.take_add_one, h1, List.getElem?_eq_getElem hlt]
        simp [List.getElem?_eq_getElem hlt]
structure RowOK (set : List Tile) (w : Nat) (c : List Nat) : Prop where
  len : c.length = w
  lt : ∀ x, x < w → c.getD x 0 < set.length
  adj : ∀ x, x + 1 < w → (tat set (c.getD x 0)).E = (tat set (c.getD (x + 1) 0)).W
theorem follows_take (set : List Tile) (c : List Nat) (j : Nat) (hj : j < c.length) (i : Nat) : follows set (c.take (j + 1)) i = ((tat set (c.getD j 0)).E == (tat set i).W) := by
  unfold follows
  have : (c.take (j + 1)).getLast? = some (c.getD j 0) := by
    have e : c.take (j + 1) = c.take j ++ [c[j]] := by rw [List.take_add_one, List.getElem?_eq_getElem hj]; rfl
    rw [e, List.getLast?_append]
    simp [List.getElem?_eq_getElem hj]
  rw [this]
theorem mem_rowsL (set : List Tile) (w : Nat) (c : List Nat) : c ∈ rowsL set w [] ↔ RowOK set w c := by
  rw [mem_rowsL0]
  constructor
  · rintro ⟨_, h2, h3⟩
    have hl : c.length = w := by simpa using h2
    refine ⟨hl, fun x hx => (h3 x (by simp) (by omega)).1, fun x hx => ?_⟩
    have := (h3 (x + 1) (by simp) (by omega)).2
    rw [follows_take set c x (by omega)] at this
    exact eq_of_beq this
  · rintro ⟨h1, h2, h3⟩
    refine ⟨by simp, by simp [h1], fun j _ hj => ⟨h2 j (by omega), ?_⟩⟩
    cases j with
    | zero => simp [follows]
    | succ j => rw [follows_take set c j (by omega), h3 j (by omega)]; simp
def sideN (set : List Tile) (c : List Nat) : List Int := c.map fun i => (tat set i).N
def sideS (set : List Tile) (c : List Nat) : List Int := c.map fun i => (tat set i).S
end Gp
set_option linter.unusedVariables false
set_option linter.unusedSimpArgs false
namespace Gp
open Gw Gq
/-! ### squares -/
def e0 : Edges := Edges.mk ([] : List Int) ([] : List Int) ([] : List Int) ([] : List Int)
end Gp
set_option linter.unusedVariables false
set_option linter.unusedSimpArgs false
namespace Gp
open Gw Gq
/-! ### tori -/
end Gp
set_option linter.unusedVariables false
set_option linter.unusedSimpArgs false
namespace Gp
open Gw Gq
/-! tori and patterns -/
end Gp
set_option linter.unusedVariables false
set_option linter.unusedSimpArgs false
namespace Gp
open Gw Gq
end Gp
set_option linter.unusedVariables false
set_option linter.unusedSimpArgs false
namespace Gp
open Gw Gq
/-! ### three tiles: a torus, or no square of side four -/
/-! masks of a set -/
def hR (set : List Tile) (i j : Nat) : Bool := decide (i < set.length ∧ j < set.length ∧ (tat set i).E = (tat set j).W)
end Gp
set_option linter.unusedVariables false
set_option linter.unusedSimpArgs false
namespace Gp
open Gw Gq
/-! ### the least torus -/
/-! ### the decision -/
end Gp
set_option linter.unusedVariables false
set_option linter.unusedSimpArgs false
namespace Gp
open Gw Gq
/-! ### fillings as grids; turned and renamed sets -/
theorem tat_map (g : Tile → Tile) {s : List Tile} {i : Nat} (h : i < s.length) : tat (s.map g) i = g (tat s i) := by
  unfold tat; simp [List.getElem?_eq_getElem h]
end Gp
set_option linter.unusedVariables false
set_option linter.unusedSimpArgs false
namespace Gp
open Gw Gq
/-! ### a set with one tile more -/
end Gp
set_option linter.unusedVariables false
set_option linter.unusedSimpArgs false
namespace Gp
open Gw Gq
/-! ### torus.Find -/
theorem power_l0 (b n : Nat) (hb : b ≤ 1000000) (hn : n ≤ 1000) : ∀ (d i k : Nat), i + d = n → d < k → ref02_Power.l0 k (min (b ^ i) 1000000 : Nat) i b n = some ((min (b ^ n) 1000000 : Nat) : Int)
  | 0, i, k, e, hk => by
    obtain ⟨k, rfl⟩ : ∃ m, k = m + 1 := ⟨k - 1, by omega⟩
    have : i = n := by omega
    subst this
    rw [ref02_Power.l0, if_neg (by simp)]
  | d + 1, i, k, e, hk => by
    obtain ⟨k, rfl⟩ : ∃ m, k = m + 1 := ⟨k - 1, by omega⟩
    have ih := power_l0 b n hb hn d (i + 1) k (by omega) (by omega)
    have hwi : w64 ((i : Int) + 1) = ((i + 1 : Nat) : Int) := by rw [w64_id (by omega) (by omega)]; rfl
    have hm : (min (b ^ i) 1000000) * b ≤ 1000000 * 1000000 := Nat.mul_le_mul (Nat.min_le_right _ _) hb
    have hmul : ((min (b ^ i) 1000000 : Nat) : Int) * (b : Int) = (((min (b ^ i) 1000000) * b : Nat) : Int) := (Int.natCast_mul _ _).symm
    have key : min (min (b ^ i) 1000000 * b) 1000000 = min (b ^ (i + 1)) 1000000 := by
      rw [Nat.pow_succ]
      by_cases hx : b ^ i ≤ 1000000
      · rw [Nat.min_eq_left hx]
      · rw [Nat.min_eq_right (by omega : 1000000 ≤ b ^ i)]
        have h0 : 0 < b := by
          rcases Nat.eq_zero_or_pos b with h0 | h0
          · exfalso; subst h0
            have := Nat.pow_le_pow_left (by omega : 0 ≤ 1) i
            rw [Nat.one_pow] at this; omega
          · exact h0
        have a1 : 1000000 ≤ 1000000 * b := Nat.le_mul_of_pos_right _ h0
        have a2 : b ^ i ≤ b ^ i * b := Nat.le_mul_of_pos_right _ h0
        rw [Nat.min_eq_right a1, Nat.min_eq_right (by omega)]
    obtain ⟨M, hM⟩ : ∃ M, min (b ^ i) 1000000 * b = M := ⟨_, rfl⟩
    rw [hM] at hm hmul key
    have hmin : minI (M : Int) 1000000 = ((min (b ^ (i + 1)) 1000000 : Nat) : Int) := by
      rw [← key]; unfold minI; split <;> omega
    rw [ref02_Power.l0, if_pos (by simp; omega), hmul, w64_id (n := (M : Int)) (by omega) (by omega), hmin, hwi]
    exact ih
theorem power_eq (b n : Nat) (hb : b ≤ 1000000) (hn : n ≤ 1000) {k : Nat} (hk : n < k) : ref02_Power k b n = some ((min (b ^ n) 1000000 : Nat) : Int) := by
  have := power_l0 b n hb hn n 0 k (by omega) hk
  rw [Nat.pow_zero] at this
  have this : ref02_Power.l0 k 1 0 b n = _ := this
  unfold ref02_Power
  rw [this]; rfl
theorem great_eq (s : List Tile) (hl : s.length ≤ 1000) {w : Nat} (hw : 1 ≤ w ∧ w ≤ 60) {k : Nat} (hk : 1000 < k) : ref02_Great k s w = some (!fewB s.length w) := by
  unfold ref02_Great
  rw [power_eq s.length w (by omega) (by omega) (by omega), Option.bind_some]
  congr 1
  unfold fewB
  by_cases h : (max s.length 1) ^ w ≤ 5000
  · rw [decide_eq_true h]
    have : s.length ^ w ≤ (max s.length 1) ^ w := Nat.pow_le_pow_left (by omega) w
    exact decide_eq_false (by omega)
  · rw [decide_eq_false h]
    have : s.length ^ w = (max s.length 1) ^ w := by
      rcases Nat.eq_zero_or_pos s.length with h0 | h0
      · exfalso; rw [h0] at h; exact h (by simp)
      · rw [show max s.length 1 = s.length by omega]
    exact decide_eq_true (by omega)
/-! multiples -/
end Gp
set_option linter.unusedVariables false
set_option linter.unusedSimpArgs false
namespace Gp
open Gw Gq
/-! ### a torus is no higher than there are words -/
theorem length_le_sub {α : Type} [BEq α] [LawfulBEq α] : ∀ (l m : List α), l.Nodup → (∀ x ∈ l, x ∈ m) → l.length ≤ m.length
  | [], m, _, _ => Nat.zero_le _
  | a :: l, m, hn, hs => by
    have hn2 := List.nodup_cons.1 hn
    have ha : a ∈ m := hs a (List.mem_cons_self ..)
    have := length_le_sub l (m.erase a) hn2.2 (fun x hx => (List.mem_erase_of_ne (fun e => hn2.1 (by rw [← e]; exact hx))).2 (hs x (List.mem_cons_of_mem _ hx)))
    rw [List.length_erase_of_mem ha] at this
    have h1 : 0 < m.length := List.length_pos_of_mem ha
    rw [List.length_cons]; omega
end Gp
set_option linter.unusedVariables false
set_option linter.unusedSimpArgs false
namespace Gp
open Gw Gq
/-! ### the reference's colours -/
def atS (l : List Int) (n : Int) : Int := if n ∈ l then (l.idxOf n : Int) else -1
theorem at_l0 (l : List Int) (n : Int) (hl : l.length ≤ 1000000) : ∀ (d i k : Nat), i + d = l.length → d < k → ref02_at.l0 k i l n = some (if n ∈ l.drop i then .inl (((i + (l.drop i).idxOf n : Nat)) : Int) else .inr ())
  | 0, i, k, e, hk => by
    obtain ⟨k, rfl⟩ : ∃ m, k = m + 1 := ⟨k - 1, by omega⟩
    rw [ref02_at.l0, if_neg (by simp; omega), List.drop_eq_nil_of_le (by omega)]; rfl
  | d + 1, i, k, e, hk => by
    obtain ⟨k, rfl⟩ : ∃ m, k = m + 1 := ⟨k - 1, by omega⟩
    have hlt : i < l.length := by omega
    have hwi : w64 ((i : Int) + 1) = ((i + 1 : Nat) : Int) := by rw [w64_id (by omega) (by omega)]; rfl
    rw [ref02_at.l0, if_pos (by simpa using hlt), if_pos (by omega), rdD_get hlt, hwi, at_l0 l n hl d (i + 1) k (by omega) (by omega), List.drop_eq_getElem_cons hlt]
    by_cases he : l[i] = n
    · rw [if_pos (by simpa using he), if_pos (by rw [he]; exact List.mem_cons_self ..)]
      rw [he, List.idxOf_cons_self]; rfl
    · rw [if_neg (by simpa using he)]
      have hm : n ∈ l[i] :: l.drop (i + 1) ↔ n ∈ l.drop (i + 1) := by
        rw [List.mem_cons]
        exact ⟨fun h => h.resolve_left (fun e => he e.symm), .inr⟩
      by_cases hd : n ∈ l.drop (i + 1)
      · rw [if_pos hd, if_pos (hm.2 hd), List.idxOf_cons, show (l[i] == n) = false by simpa using he]
        simp only [cond_false]
        congr 2; omega
      · rw [if_neg hd, if_neg (fun h => hd (hm.1 h))]
theorem at_eq (l : List Int) (n : Int) (hl : l.length ≤ 1000000) {k : Nat} (hk : l.length < k) : ref02_at k l n = some (atS l n) := by
  have := at_l0 l n hl l.length 0 k (by omega) hk
  have this : ref02_at.l0 k 0 l n = _ := this
  unfold ref02_at atS
  rw [this, List.drop_zero]
  by_cases h : n ∈ l
  · rw [if_pos h, if_pos h]; simp [sumb]
  · rw [if_neg h, if_neg h]; rfl
def withS (l : List Int) (n : Int) : List Int := if n ∈ l then l else l ++ [n]
theorem with_eq (l : List Int) (n : Int) (hl : l.length ≤ 1000000) {k : Nat} (hk : l.length < k) : ref02_with k l n = some (withS l n) := by
  unfold ref02_with withS
  rw [at_eq l n hl hk, Option.bind_some]
  unfold atS
  by_cases h : n ∈ l
  · rw [if_pos h, if_neg (by simp), if_pos h]; rfl
  · rw [if_neg h, if_pos (by decide), if_pos (by simp; omega), if_neg h]; rfl
theorem withS_len (l : List Int) (n : Int) : (withS l n).length ≤ l.length + 1 := by unfold withS; split <;> simp
theorem mem_withS (l : List Int) (n x : Int) : x ∈ withS l n ↔ x ∈ l ∨ x = n := by
  unfold withS
  split
  · rename_i h; exact ⟨.inl, fun e => e.elim id (fun e => e ▸ h)⟩
  · simp
theorem withS_nodup {l : List Int} (n : Int) (h : l.Nodup) : (withS l n).Nodup := by
  unfold withS
  split
  · exact h
  · rename_i hn
    rw [List.nodup_append]
    exact ⟨h, List.nodup_cons.2 ⟨by simp, List.nodup_nil⟩, fun a ha b hb => by
      rw [List.mem_singleton] at hb; intro e; exact hn (by rw [← hb, ← e]; exact ha)⟩
def colS2 (l : List Int) (t : Tile) : List Int := withS (withS l t.N) t.S
def colsS (s : List Tile) : List Int := s.foldl colS2 []
theorem colours_eq (s : List Tile) (hl : s.length ≤ 2000) {k : Nat} (hk : 10000 < k) : ref02_Colours k s = some (colsS s) := by
  have := loop_list (F := fun k i (l : List Int) => ref02_Colours.l0 k l i s) s colS2 5000 (fun i l => l.length ≤ 2 * i) id (fun k i l h hk hP => by
    have hwi : w64 ((i : Int) + 1) = ((i + 1 : Nat) : Int) := by rw [w64_id (by omega) (by omega)]; rfl
    have h1 := withS_len l s[i].N
    have h2 := withS_len (withS l s[i].N) s[i].S
    constructor
    · show ref02_Colours.l0 (k + 1) l i s = _
      rw [ref02_Colours.l0, if_pos (by simpa using h), if_pos (by omega), rdD_get h, with_eq l _ (by omega) (by omega), Option.bind_some, with_eq _ _ (by omega) (by omega), Option.bind_some, hwi]; rfl
    · unfold colS2; omega) (fun k l _ => by
    show ref02_Colours.l0 (k + 1) l s.length s = _
    rw [ref02_Colours.l0, if_neg (by simp)]; rfl) [] (by simp) k (by omega)
  have this : ref02_Colours.l0 k [] 0 s = _ := this
  unfold ref02_Colours
  rw [this]; rfl
theorem colsS_spec (s : List Tile) : (colsS s).Nodup ∧ (colsS s).length ≤ 2 * s.length ∧ ∀ c, c ∈ colsS s ↔ ∃ t ∈ s, c = t.N ∨ c = t.S := by
  have key : ∀ (r : List Tile) (l : List Int), l.Nodup → (r.foldl colS2 l).Nodup ∧ (r.foldl colS2 l).length ≤ l.length + 2 * r.length ∧ ∀ c, c ∈ r.foldl colS2 l ↔ c ∈ l ∨ ∃ t ∈ r, c = t.N ∨ c = t.S := by
    intro r
    induction r with
    | nil => intro l h; exact ⟨h, by simp, fun c => by simp⟩
    | cons t r ih =>
      intro l h
      obtain ⟨a, b, c⟩ := ih (colS2 l t) (withS_nodup _ (withS_nodup _ h))
      have h1 := withS_len l t.N
      have h2 := withS_len (withS l t.N) t.S
      refine ⟨a, ?_, fun x => ?_⟩
      · rw [List.foldl_cons, List.length_cons]; unfold colS2 at b ⊢; omega
      · rw [List.foldl_cons, c x]
        unfold colS2
        rw [mem_withS, mem_withS]
        simp only [List.mem_cons, exists_eq_or_imp]
        constructor
        · rintro (((h | h) | h) | h)
          · exact .inl h
          · exact .inr (.inl (.inl h))
          · exact .inr (.inl (.inr h))
          · exact .inr (.inr h)
        · rintro (h | (h | h) | h)
          · exact .inl (.inl (.inl h))
          · exact .inl (.inl (.inr h))
          · exact .inl (.inr h)
          · exact .inr h
  obtain ⟨a, b, c⟩ := key s [] List.nodup_nil
  exact ⟨a, by simpa [colsS] using b, fun x => by rw [colsS, c x]; simp⟩
theorem light_some (s : List Tile) (hl : s.length ≤ 1000) {w : Nat} (hw : w ≤ 1000) {k : Nat} (hk : 10000 < k) : ref02_Light k s w = some (decide (min ((colsS s).length ^ w) 1000000 ≤ 1500) && decide (min (s.length ^ w) 1000000 ≤ 40000)) := by
  obtain ⟨_, hc, _⟩ := colsS_spec s
  unfold ref02_Light
  rw [colours_eq s (by omega) hk, Option.bind_some, power_eq (colsS s).length w (by omega) hw (by omega), Option.bind_some]
  have d1 : ∀ a b : Nat, decide (((a : Nat) : Int) ≤ ((b : Nat) : Int)) = decide (a ≤ b) := fun a b => by
    by_cases h : a ≤ b
    · rw [decide_eq_true h, decide_eq_true (by omega)]
    · rw [decide_eq_false h, decide_eq_false (by omega)]
  have e1 := d1 (min ((colsS s).length ^ w) 1000000) 1500
  have e2 := d1 (min (s.length ^ w) 1000000) 40000
  have e1' : decide (((min ((colsS s).length ^ w) 1000000 : Nat) : Int) ≤ 1500) = decide (min ((colsS s).length ^ w) 1000000 ≤ 1500) := e1
  have e2' : decide (((min (s.length ^ w) 1000000 : Nat) : Int) ≤ 40000) = decide (min (s.length ^ w) 1000000 ≤ 40000) := e2
  rw [e1']
  cases h : decide (min ((colsS s).length ^ w) 1000000 ≤ 1500)
  · rfl
  · rw [if_pos rfl, power_eq s.length w (by omega) hw (by omega), Option.bind_some, e2']; rfl
/-! ### squares fall -/
end Gp
set_option linter.unusedVariables false
set_option linter.unusedSimpArgs false
namespace Gp
open Gw Gq
/-! ### the reference's rows -/
end Gp
set_option linter.unusedVariables false
set_option linter.unusedSimpArgs false
namespace Gp
open Gw Gq
/-! ### the reference's tori -/
end Gp
set_option linter.unusedVariables false
set_option linter.unusedSimpArgs false
namespace Gp
open Gw Gq
/-! program and reference -/
end Gp
set_option linter.unusedVariables false
set_option linter.unusedSimpArgs false
namespace Gp
open Gw Gq
/-! ### the reference's least torus -/
end Gp
set_option linter.unusedVariables false
set_option linter.unusedSimpArgs false
namespace Gp
open Gw Gq
/-! ### the reference's first filling -/
end Gp
set_option linter.unusedVariables false
set_option linter.unusedSimpArgs false
namespace Gp
open Gw Gq
def fitC (s : List Tile) (w h : Nat) (e : Edges) (c : List Nat) (y : Nat) : Bool := alB e w h (mkR s c) y
end Gp
set_option linter.unusedVariables false
set_option linter.unusedSimpArgs false
namespace Gp
open Gw Gq
theorem edge_of {e : Edges} {w h : Nat} (he : sidesB e w h = true) : EdgeOK e w h := by
  unfold sidesB at he
  simp only [Bool.and_eq_true, Bool.or_eq_true, decide_eq_true_eq] at he
  exact ⟨he.1.1.1.imp id (fun h => by omega), he.1.1.2.imp id (fun h => by omega), he.1.2.imp id (fun h => by omega), he.2.imp id (fun h => by omega)⟩
end Gp
set_option linter.unusedVariables false
set_option linter.unusedSimpArgs false
namespace Gp
open Gw Gq
end Gp
set_option linter.unusedVariables false
set_option linter.unusedSimpArgs false
namespace Gp
open Gw Gq
theorem awake02_ok (k : Nat) : law02_awake (k + 300) = some true := by kernel_rfl
/-! ### the first filling of a rectangle -/
theorem fault_eq {s : List Tile} (hl : s.length ≤ 9223372036854775807) (w h : Int) (e : Edges) {k : Nat} (hk : 2002 < k) : ref02_Fault k s w h e = some (if validT s = true then (if (1 ≤ w ∧ w ≤ 8 ∧ 1 ≤ h ∧ h ≤ 60) then (if sidesB e w h = true then 0 else 2) else 2) else 1) := by
  have hs : ∀ (l : List Int) (n : Int), (((l.length : Int) == 0) || ((l.length : Int) == n)) = (decide (l.length = 0) || decide ((l.length : Int) = n)) := fun l n => by
    rw [Bool.eq_iff_iff]; simp
  unfold ref02_Fault ref02_side
  rw [valid01 s hk hl, Option.bind_some]
  cases hv : validT s
  · rfl
  rw [if_neg (by decide), if_pos rfl]
  by_cases hr : 1 ≤ w ∧ w ≤ 8 ∧ 1 ≤ h ∧ h ≤ 60
  rotate_left
  · rw [if_pos (by simp; omega), if_neg hr]
  rw [if_neg (by simp; omega), if_pos hr, hs, hs, hs, hs]
  unfold sidesB
  cases (decide (e.North.length = 0) || decide ((e.North.length : Int) = w)) <;> cases (decide (e.South.length = 0) || decide ((e.South.length : Int) = w)) <;> cases (decide (e.West.length = 0) || decide ((e.West.length : Int) = h)) <;> cases (decide (e.East.length = 0) || decide ((e.East.length : Int) = h)) <;> rfl
theorem heavy02 (s : List Tile) (hl : s.length ≤ 1000) {w : Nat} (hw : w ≤ 1000) {k : Nat} (hk : 10000 < k) : ∃ b, law02_heavy k s w = some b ∧ (b = false → s.length ≤ 60 ∧ (colsS s).length ^ w ≤ 1500 ∧ s.length ^ w ≤ 40000) := by
  unfold law02_heavy
  by_cases h : s.length ≤ 60
  · have h0 : decide ((s.length : Int) > 60) = false := decide_eq_false (by omega)
    rw [h0, if_neg (by decide), light_some s hl hw hk]
    refine ⟨_, rfl, fun hb => ?_⟩
    rw [Bool.not_eq_false', Bool.and_eq_true, decide_eq_true_eq, decide_eq_true_eq] at hb
    omega
  · have h0 : decide ((s.length : Int) > 60) = true := decide_eq_true (by omega)
    rw [h0, if_pos rfl]
    exact ⟨true, rfl, fun h => by cases h⟩
end Gp
set_option linter.unusedVariables false
set_option linter.unusedSimpArgs false
namespace Gq
open Gw
/-! ### sums, and the numbers of ways up and down -/
def sm {α : Type} (l : List α) (f : α → Nat) : Nat := (l.map f).sum
theorem sm_nil {α : Type} (f : α → Nat) : sm [] f = 0 := rfl
theorem sm_cons {α : Type} (a : α) (l : List α) (f : α → Nat) : sm (a :: l) f = f a + sm l f := by simp [sm]
theorem sm_congr {α : Type} {l : List α} {f g : α → Nat} (h : ∀ x ∈ l, f x = g x) : sm l f = sm l g := by
  unfold sm; rw [List.map_congr_left h]
theorem sm_map {α β : Type} (g : α → β) (f : β → Nat) (l : List α) : sm (l.map g) f = sm l fun x => f (g x) := by
  simp [sm, List.map_map, Function.comp_def]
theorem sm_zero {α : Type} (l : List α) : sm l (fun _ => 0) = 0 := by
  induction l with
  | nil => rfl
  | cons a l ih => rw [sm_cons, ih]
theorem sm_add {α : Type} (l : List α) (f g : α → Nat) : sm l (fun x => f x + g x) = sm l f + sm l g := by
  induction l with
  | nil => rfl
  | cons a l ih => rw [sm_cons, sm_cons, sm_cons, ih]; omega
theorem sm_mul {α : Type} (l : List α) (f : α → Nat) (c : Nat) : sm l (fun x => c * f x) = c * sm l f := by
  induction l with
  | nil => rfl
  | cons a l ih => rw [sm_cons, sm_cons, ih, Nat.mul_add]
theorem sm_swap {α β : Type} (a : List α) (b : List β) (f : α → β → Nat) : sm a (fun x => sm b fun y => f x y) = sm b fun y => sm a fun x => f x y := by
  induction a with
  | nil => rw [sm_nil]; exact (sm_zero b).symm
  | cons x a ih =>
    rw [sm_cons, ih, ← sm_add]
    exact sm_congr fun y _ => (sm_cons x a fun x => f x y).symm
def upC {α κ : Type} [DecidableEq κ] (B : List α) (S N : α → κ) (ft : α → Nat → Bool) (h : Nat) : Nat → κ → Nat
  | 0, _ => 1
  | n + 1, x => sm B fun c => if (decide (S c = x) && ft c (h - 1 - n)) = true then upC B S N ft h n (N c) else 0
def dnC {α κ : Type} [DecidableEq κ] (B : List α) (S N : α → κ) (ft : α → Nat → Bool) : Nat → κ → Nat
  | 0, _ => 1
  | y + 1, x => sm B fun c => if (decide (N c = x) && ft c y) = true then dnC B S N ft y (S c) else 0
def midC {α κ : Type} [DecidableEq κ] (B : List α) (S N : α → κ) (ft : α → Nat → Bool) (h y : Nat) : Nat := sm B fun c => if ft c y = true then dnC B S N ft y (S c) * upC B S N ft h (h - 1 - y) (N c) else 0
theorem mid_succ {α κ : Type} [DecidableEq κ] (B : List α) (S N : α → κ) (ft : α → Nat → Bool) {h y : Nat} (hy : y + 1 < h) : midC B S N ft h (y + 1) = midC B S N ft h y := by
  obtain ⟨m, hm⟩ : ∃ m, h - 1 - (y + 1) = m := ⟨_, rfl⟩
  have e1 : h - 1 - y = m + 1 := by omega
  have e2 : h - 1 - m = y + 1 := by omega
  unfold midC
  rw [hm, e1]
  have l : ∀ c, (if ft c (y + 1) = true then dnC B S N ft (y + 1) (S c) * upC B S N ft h m (N c) else 0) = sm B fun q => if (ft q y && (ft c (y + 1) && decide (S c = N q))) = true then dnC B S N ft y (S q) * upC B S N ft h m (N c) else 0 := fun c => by
    cases ft c (y + 1)
    · rw [if_neg (by decide)]
      rw [sm_congr (g := fun _ => 0) (fun q _ => if_neg (by simp)), sm_zero]
    · rw [if_pos rfl, dnC, Nat.mul_comm, ← sm_mul]
      refine sm_congr fun q _ => ?_
      by_cases he : S c = N q
      · have : N q = S c := he.symm
        cases ft q y <;> simp [he, Nat.mul_comm]
      · have : ¬ N q = S c := fun e => he e.symm
        cases ft q y <;> simp [he, this]
  have r : ∀ q, (if ft q y = true then dnC B S N ft y (S q) * upC B S N ft h (m + 1) (N q) else 0) = sm B fun c => if (ft q y && (ft c (y + 1) && decide (S c = N q))) = true then dnC B S N ft y (S q) * upC B S N ft h m (N c) else 0 := fun q => by
    cases ft q y
    · rw [if_neg (by decide)]
      rw [sm_congr (g := fun _ => 0) (fun q _ => if_neg (by simp)), sm_zero]
    · rw [if_pos rfl, upC, ← sm_mul, e2]
      refine sm_congr fun c _ => ?_
      by_cases he : S c = N q
      · cases ft c (y + 1) <;> simp [he]
      · cases ft c (y + 1) <;> simp [he]
  rw [sm_congr (fun c _ => l c), sm_congr (fun q _ => r q), sm_swap]
theorem mid_const {α κ : Type} [DecidableEq κ] (B : List α) (S N : α → κ) (ft : α → Nat → Bool) {h : Nat} : ∀ y, y < h → midC B S N ft h y = midC B S N ft h 0
  | 0, _ => rfl
  | y + 1, hy => by rw [mid_succ B S N ft hy, mid_const B S N ft y (by omega)]
theorem dnC_map {α β κ : Type} [DecidableEq κ] (g : α → β) (B : List α) (S N : β → κ) (ft : β → Nat → Bool) : ∀ (y : Nat) (x : κ), dnC (B.map g) S N ft y x = dnC B (fun c => S (g c)) (fun c => N (g c)) (fun c => ft (g c)) y x
  | 0, x => rfl
  | y + 1, x => by
    rw [dnC, dnC, sm_map]
    exact sm_congr fun c _ => by rw [dnC_map g B S N ft y]
theorem dnC_key {α κ μ : Type} [DecidableEq κ] [DecidableEq μ] (B : List α) (S N : α → κ) (S' N' : α → μ) (ft : α → Nat → Bool) (hk : ∀ c ∈ B, ∀ d ∈ B, S c = N d ↔ S' c = N' d) : ∀ (y : Nat) (d : α), d ∈ B → dnC B S N ft y (S d) = dnC B S' N' ft y (S' d)
  | 0, d, _ => rfl
  | y + 1, d, hd => by
    rw [dnC, dnC]
    refine sm_congr fun c hc => ?_
    rw [dnC_key B S N S' N' ft hk y c hc]
    have : decide (N c = S d) = decide (N' c = S' d) := by
      rw [Bool.eq_iff_iff, decide_eq_true_eq, decide_eq_true_eq]
      exact ⟨fun e => ((hk d hd c hc).1 e.symm).symm, fun e => ((hk d hd c hc).2 e.symm).symm⟩
    rw [this]
theorem tot_up {α κ : Type} [DecidableEq κ] (B : List α) (S N : α → κ) (ft : α → Nat → Bool) {h : Nat} (hh : 1 ≤ h) : midC B S N ft h 0 = sm B fun c => if ft c 0 = true then upC B S N ft h (h - 1) (N c) else 0 := by
  unfold midC
  exact sm_congr fun c _ => by rw [dnC, Nat.one_mul, Nat.sub_zero]
theorem tot_dn {α κ : Type} [DecidableEq κ] (B : List α) (S N : α → κ) (ft : α → Nat → Bool) {h : Nat} (hh : 1 ≤ h) : midC B S N ft h 0 = sm B fun c => if ft c (h - 1) = true then dnC B S N ft (h - 1) (S c) else 0 := by
  rw [← mid_const B S N ft (h - 1) (by omega)]
  unfold midC
  exact sm_congr fun c _ => by rw [show h - 1 - (h - 1) = 0 by omega, upC, Nat.mul_one]
/-! ### numbers that stay below a bound -/
def sat (v : Nat) : Nat := min v 1152921504606846977
theorem sat_le (v : Nat) : sat v ≤ 1152921504606846977 := Nat.min_le_right ..
theorem sat_add (a b : Nat) : minI (w64 ((sat a : Int) + (sat b : Int))) 1152921504606846977 = ((sat (a + b) : Nat) : Int) := by
  have h1 := sat_le a
  have h2 := sat_le b
  rw [w64_id (by omega) (by omega)]
  unfold minI sat
  split <;> omega
theorem sat_pos (a : Nat) : 0 < sat a ↔ 0 < a := by unfold sat; omega
def sumV {κ : Type} (m : List (κ × Nat)) : Nat := sm m Prod.snd
def satM {κ : Type} (m : List (κ × Nat)) : List (κ × Int) := m.map fun p => (p.1, ((sat p.2 : Nat) : Int))
theorem satM_get {κ : Type} [DecidableEq κ] (x : κ) : ∀ m : List (κ × Nat), mget x 0 (satM m) = ((sat (mget x 0 m) : Nat) : Int)
  | [] => rfl
  | p :: r => by
    show (if x = p.1 then ((sat p.2 : Nat) : Int) else mget x 0 (satM r)) = _
    rw [mget]
    by_cases h : x = p.1
    · rw [if_pos h, if_pos h]
    · rw [if_neg h, if_neg h, satM_get x r]
theorem satM_put {κ : Type} [DecidableEq κ] (x : κ) (v : Nat) : ∀ m : List (κ × Nat), mput x ((sat v : Nat) : Int) (satM m) = satM (mput x v m)
  | [] => rfl
  | p :: r => by
    show (if x = p.1 then (x, ((sat v : Nat) : Int)) :: satM r else (p.1, ((sat p.2 : Nat) : Int)) :: mput x ((sat v : Nat) : Int) (satM r)) = _
    rw [mput]
    by_cases h : x = p.1
    · rw [if_pos h, if_pos h]; rfl
    · rw [if_neg h, if_neg h, satM_put x v r]; rfl
theorem sumV_put {κ : Type} [DecidableEq κ] (x : κ) (v : Nat) : ∀ m : List (κ × Nat), sumV (mput x (mget x 0 m + v) m) = sumV m + v
  | [] => by simp [mput, mget, sumV, sm]
  | p :: r => by
    rw [mput, mget]
    by_cases h : x = p.1
    · rw [if_pos h, if_pos h]
      simp only [sumV, sm_cons]; omega
    · rw [if_neg h, if_neg h]
      have := sumV_put x v r
      simp only [sumV, sm_cons] at this ⊢; omega
def addM {α κ : Type} [DecidableEq κ] (key : α → κ) (v : α → Nat) (q : α → Bool) (m : List (κ × Nat)) (a : α) : List (κ × Nat) := if (decide (0 < v a) && q a) = true then mput (key a) (mget (key a) 0 m + v a) m else m
theorem addM_get {α κ : Type} [DecidableEq κ] (key : α → κ) (v : α → Nat) (q : α → Bool) (x : κ) : ∀ (l : List α) (m : List (κ × Nat)), mget x 0 (l.foldl (addM key v q) m) = mget x 0 m + sm l fun a => if (decide (key a = x) && q a) = true then v a else 0
  | [], m => rfl
  | a :: l, m => by
    rw [List.foldl_cons, addM_get key v q x l, sm_cons]
    unfold addM
    by_cases hv : 0 < v a
    · cases q a
      · simp
      · simp only [hv, decide_true, Bool.and_true, if_true, Gq.mget_mput]
        by_cases hx : x = key a
        · subst hx; simp; omega
        · have : ¬ key a = x := fun e => hx e.symm
          simp [hx, this]
    · have h0 : v a = 0 := by omega
      simp [h0]
theorem addM_sum {α κ : Type} [DecidableEq κ] (key : α → κ) (v : α → Nat) (q : α → Bool) : ∀ (l : List α) (m : List (κ × Nat)), sumV (l.foldl (addM key v q) m) = sumV m + sm l fun a => if q a = true then v a else 0
  | [], m => rfl
  | a :: l, m => by
    rw [List.foldl_cons, addM_sum key v q l, sm_cons]
    unfold addM
    by_cases hv : 0 < v a
    · cases q a
      · simp
      · simp only [hv, decide_true, Bool.and_true, if_true, sumV_put]; omega
    · have h0 : v a = 0 := by omega
      simp [h0]
theorem foldM_sat {κ : Type} (f : Int → Int → Option Int) (hf : ∀ x v, f x v = some (minI (w64 (x + v)) 1152921504606846977)) : ∀ (m : List (κ × Nat)) (a : Nat), ((satM m).map Prod.snd).foldlM f ((sat a : Nat) : Int) = some ((sat (a + sumV m) : Nat) : Int)
  | [], a => rfl
  | p :: r, a => by
    show ((f ((sat a : Nat) : Int) ((sat p.2 : Nat) : Int)).bind fun b => ((satM r).map Prod.snd).foldlM f b) = _
    rw [hf, sat_add, Option.bind_some, foldM_sat f hf r, Nat.add_assoc]
    rfl
theorem mapfold_sat {κ : Type} (f : Int → Int → Option Int) (hf : ∀ x v, f x v = some (minI (w64 (x + v)) 1152921504606846977)) (m : List (κ × Nat)) : mapfold (satC 1152921504606846977) f 0 ((satM m).map Prod.snd) = some ((sat (sumV m) : Nat) : Int) := by
  unfold mapfold
  have : satC 1152921504606846977 0 ((satM m).map Prod.snd) = true := by
    unfold satC
    rw [Bool.and_eq_true]
    refine ⟨by decide, ?_⟩
    rw [List.all_eq_true]
    intro v hv
    obtain ⟨p, hp, rfl⟩ := List.mem_map.1 hv
    obtain ⟨q, hq, rfl⟩ := List.mem_map.1 hp
    have := sat_le q.2
    exact decide_eq_true (by show (0 : Int) ≤ ((sat q.2 : Nat) : Int) ∧ ((sat q.2 : Nat) : Int) ≤ _; omega)
  rw [if_pos this]
  have := foldM_sat f hf m 0
  rw [Nat.zero_add] at this
  exact this
end Gq
set_option linter.unusedVariables false
set_option linter.unusedSimpArgs false
namespace Gp
open Gw Gq
/-! ### the program's count -/
theorem mod_pos (x : Int) (n : Nat) (hx : x = ((sat n : Nat) : Int)) : decide (x > 0) = decide (0 < n) := by
  have := sat_pos n
  rw [hx, Bool.eq_iff_iff, decide_eq_true_eq, decide_eq_true_eq]; omega
theorem count_l2 {e : Edges} {w h : Nat} (he : EdgeOK e w h) (hw : w ≤ 8) (hh : h ≤ 1000) (R : List Row) (hR : R.length ≤ 1000000) {y : Nat} (hy : y < h) (E : List (A8_Int × Nat)) (hE : 0 < y → ∀ x, mget x 0 E = dnC R Row.South Row.North (alB e w h) y x) {k : Nat} (hk : R.length + w + 1 < k) :
    fill_Count.l2 k [] 0 e ⟨R, w, h, e⟩ (satM E) (y : Int) = some (satM (R.foldl (addM Row.North (fun r => dnC R Row.South Row.North (alB e w h) y r.South) (fun r => alB e w h r y)) [])) := by
  have hl := loop_list (F := fun k i (m : List (A8_Int × Nat)) => fill_Count.l2 k (satM m) i e ⟨R, w, h, e⟩ (satM E) (y : Int)) R (addM Row.North (fun r => dnC R Row.South Row.North (alB e w h) y r.South) (fun r => alB e w h r y)) (w + 1) (fun _ _ => True) satM (fun k i m hi hk _ => by
    refine ⟨?_, trivial⟩
    show fill_Count.l2 (k + 1) (satM m) i e ⟨R, w, h, e⟩ (satM E) (y : Int) = _
    have hwi : w64 ((i : Int) + 1) = ((i + 1 : Nat) : Int) := by rw [w64_id (by omega) (by omega)]; rfl
    have hal : ∀ r, fill_job_allows k (Job.mk R w h e) r (y : Int) = some (alB e w h r y) := fun r => allows_eq he hw hh R r hy (by omega)
    rw [fill_Count.l2, if_pos (by simpa using hi), if_pos (by simp; omega)]
    simp only [hal, rdD_get hi, hwi, Option.bind_some]
    have hn : (if decide ((y : Int) > 0) = true then some (mget R[i].South 0 (satM E)) else some 1) = some ((sat (dnC R Row.South Row.North (alB e w h) y R[i].South) : Nat) : Int) := by
      by_cases h0 : 0 < y
      · rw [if_pos (by simpa using h0), satM_get, hE h0]
      · have : y = 0 := by omega
        subst this
        rw [if_neg (by decide)]; rfl
    rw [hn, Option.bind_some, mod_pos _ _ rfl]
    unfold addM
    cases hd : decide (0 < dnC R Row.South Row.North (alB e w h) y R[i].South)
    · simp
    · cases ha : alB e w h R[i] y
      · simp [ha]
      · rw [if_pos rfl, Option.bind_some, if_pos rfl]
        unfold fill_Count_1
        rw [satM_get, sat_add, Option.bind_some, satM_put, Option.bind_some]
        simp [ha]) (fun k m _ => by
    show fill_Count.l2 (k + 1) (satM m) R.length e ⟨R, w, h, e⟩ (satM E) (y : Int) = _
    rw [fill_Count.l2, if_neg (by simp)]) [] trivial k (by omega)
  exact hl
theorem count_l1 {e : Edges} {w h : Nat} (he : EdgeOK e w h) (hw : w ≤ 8) (hh : h ≤ 1000) (R : List Row) (hR : R.length ≤ 1000000) : ∀ (d y : Nat) (E : List (A8_Int × Nat)) (k : Nat), y + d = h → (0 < y → (∀ x, mget x 0 E = dnC R Row.South Row.North (alB e w h) y x) ∧ sumV E = sm R fun r => if alB e w h r (y - 1) = true then dnC R Row.South Row.North (alB e w h) (y - 1) r.South else 0) → R.length + w + d + 3 < k →
    ∃ E', fill_Count.l1 k (satM E) (y : Int) (h : Int) e ⟨R, w, h, e⟩ = some (satM E') ∧ (0 < h → (∀ x, mget x 0 E' = dnC R Row.South Row.North (alB e w h) h x) ∧ sumV E' = sm R fun r => if alB e w h r (h - 1) = true then dnC R Row.South Row.North (alB e w h) (h - 1) r.South else 0)
  | 0, y, E, k, hd, hE, hk => by
    obtain ⟨k, rfl⟩ : ∃ m, k = m + 1 := ⟨k - 1, by omega⟩
    have : y = h := by omega
    subst this
    exact ⟨E, by rw [fill_Count.l1, if_neg (by simp)], hE⟩
  | d + 1, y, E, k, hd, hE, hk => by
    obtain ⟨k, rfl⟩ : ∃ m, k = m + 1 := ⟨k - 1, by omega⟩
    have hwy : w64 ((y : Int) + 1) = ((y + 1 : Nat) : Int) := by rw [w64_id (by omega) (by omega)]; rfl
    rw [fill_Count.l1, if_pos (by simp; omega), count_l2 he hw hh R hR (by omega) E (fun h0 => (hE h0).1) (by omega), Option.bind_some, hwy]
    refine count_l1 he hw hh R hR d (y + 1) _ k (by omega) (fun _ => ⟨fun x => ?_, ?_⟩) (by omega)
    · rw [addM_get, dnC]
      show 0 + _ = _
      rw [Nat.zero_add]
    · rw [addM_sum]
      show 0 + _ = _
      rw [Nat.zero_add]; rfl
def waysN (s : List Tile) (w h : Nat) (e : Edges) : Nat := midC (rowsL s w []) (sideS s) (sideN s) (fitC s w h e) h 0
theorem allR_C (s : List Tile) (w : Nat) : allR s w = (rowsL s w []).map (mkR s) := rfl
theorem ways_dn {s : List Tile} {w h : Nat} (e : Edges) (hw : 1 ≤ w ∧ w ≤ 8) (hh : 1 ≤ h) : (sm (allR s w) fun r => if alB e w h r (h - 1) = true then dnC (allR s w) Row.South Row.North (alB e w h) (h - 1) r.South else 0) = waysN s w h e := by
  unfold waysN
  rw [tot_dn _ _ _ _ hh, allR_C, sm_map]
  refine sm_congr fun c hc => ?_
  have hB : ∀ c ∈ rowsL s w [], RowOK s w c := fun c hc => (mem_rowsL s w c).1 hc
  rw [dnC_map]
  have hk : ∀ c ∈ rowsL s w [], ∀ d ∈ rowsL s w [], (mkR s c).South = (mkR s d).North ↔ sideS s c = sideN s d := fun c hc d hd => by
    show wordOf (sideS s c) = wordOf (sideN s d) ↔ _
    have l1 := (hB c hc).len
    have l2 := (hB d hd).len
    refine ⟨fun e => (wordOf_inj ?_ ?_).1 e, fun e => by rw [e]⟩ <;> simp [sideS, sideN] <;> omega
  rw [dnC_key (rowsL s w []) (fun c => (mkR s c).South) (fun c => (mkR s c).North) (sideS s) (sideN s) _ hk (h - 1) c hc]
  rfl
def countX (s : List Tile) (w h : Nat) (e : Edges) : Int × Int := if waysN s w h e ≤ 1152921504606846976 then (((waysN s w h e : Nat) : Int), 0) else (0, 4)
theorem count_ok (set : List Tile) (w h : Nat) (e : Edges) (hv : validT set = true) (hw : 1 ≤ w ∧ w ≤ 8) (hh : 1 ≤ h ∧ h ≤ 60) (he : sidesB e w h = true) (hf : fewB set.length w = true) {k : Nat} (hk : 10000 < k) : fill_Count k set w h e = some (countX set w h e) := by
  have hl := valid_len hv
  have hp := max_pow hf
  have hRl := allR_len set w
  have heo : EdgeOK e w h := edge_of he
  obtain ⟨j, rfl⟩ : ∃ j, k = j + 5 := ⟨k - 5, by omega⟩
  unfold fill_Count fill_begin
  rw [tile_valid set (by omega) (by omega), hv, Option.bind_some, if_neg (by simp), if_neg (by simp; omega), begin_l0, he, few_eq set w (by omega) (by omega) (by omega), hf, all_eq set w hw.1 hw.2 (by omega) (by omega) (by omega)]
  simp only [if_true, Option.bind_some, sumb, Bool.not_true, Bool.false_eq_true, if_false, optM, bne_self_eq_false]
  obtain ⟨E', e1, e2⟩ := count_l1 heo hw.2 (by omega) (allR set w) (by omega) h 0 [] (j + 5) (by omega) (fun h0 => by omega) (by omega)
  have e1 : fill_Count.l1 (j + 5) ([] : List (A8_Int × Int)) 0 (h : Int) e ⟨allR set w, w, h, e⟩ = some (satM E') := e1
  rw [e1, Option.bind_some, mapfold_sat _ (fun x v => by unfold fill_Count_1; rfl), Option.bind_some, (e2 (by omega)).2, ways_dn e hw hh.1]
  unfold countX sat
  by_cases hs : waysN set w h e ≤ 1152921504606846976
  · rw [if_pos hs, if_neg (by simp; omega), Nat.min_eq_left (by omega)]
  · rw [if_neg hs, if_pos (by simp; omega)]
/-! ### the reference's count -/
end Gp
set_option linter.unusedVariables false
set_option linter.unusedSimpArgs false
namespace Gp
open Gw Gq
/-! ### there is a filling exactly if there are ways -/
theorem mk_sides {s : List Tile} {w : Nat} {c : List Nat} (hc : RowOK s w c) (hw : 1 ≤ w ∧ w ≤ 8) : (mkR s c).West = (tat s (c.getD 0 0)).W ∧ (mkR s c).East = (tat s (c.getD (w - 1) 0)).E ∧ ∀ x, x < w → (mkR s c).South.get x = (tat s (c.getD x 0)).S ∧ (mkR s c).North.get x = (tat s (c.getD x 0)).N := by
  refine ⟨?_, ?_, fun x hx => ⟨?_, ?_⟩⟩
  · show (tat s (c.headD 0)).W = _
    congr 2
    cases c <;> simp
  · show (tat s (c.getLastD 0)).E = _
    congr 2
    rw [List.getLastD_eq_getLast?, List.getLast?_eq_getElem?, hc.len, List.getD_eq_getElem?_getD]
  · show (wordOf (c.map fun i => (tat s i).S)).get x = _
    rw [wordOf_get _ x (by omega)]
    simp [List.getElem?_eq_getElem (show x < c.length by rw [hc.len]; exact hx)]
  · show (wordOf (c.map fun i => (tat s i).N)).get x = _
    rw [wordOf_get _ x (by omega)]
    simp [List.getElem?_eq_getElem (show x < c.length by rw [hc.len]; exact hx)]
theorem al_iff {s : List Tile} {w h : Nat} {e : Edges} {c : List Nat} (hc : RowOK s w c) (hw : 1 ≤ w ∧ w ≤ 8) (y : Nat) : alB e w h (mkR s c) y = true ↔ atB e.West y (tat s (c.getD 0 0)).W = true ∧ atB e.East y (tat s (c.getD (w - 1) 0)).E = true ∧ (y = 0 → ∀ x, x < w → atB e.South x (tat s (c.getD x 0)).S = true) ∧ (y + 1 = h → ∀ x, x < w → atB e.North x (tat s (c.getD x 0)).N = true) := by
  obtain ⟨h1, h2, h3⟩ := mk_sides hc hw
  unfold alB
  rw [h1, h2, Bool.and_eq_true, Bool.and_eq_true, List.all_eq_true, and_assoc]
  refine and_congr Iff.rfl (and_congr Iff.rfl ?_)
  simp only [List.mem_range]
  have h4 : ∀ x, x < w → (colE e h (mkR s c) y x = true ↔ (y = 0 → atB e.South x (tat s (c.getD x 0)).S = true) ∧ (y + 1 = h → atB e.North x (tat s (c.getD x 0)).N = true)) := fun x hx => by
    unfold colE
    rw [(h3 x hx).1, (h3 x hx).2, Bool.and_eq_true, Bool.or_eq_true, Bool.or_eq_true, Bool.not_eq_true', Bool.not_eq_true', decide_eq_false_iff_not, decide_eq_false_iff_not]
    exact and_congr Decidable.imp_iff_not_or.symm ⟨fun h h1 => h.resolve_left (fun n => n h1), fun h => Decidable.imp_iff_not_or.1 h⟩
  constructor
  · intro h
    exact ⟨fun h0 x hx => ((h4 x hx).1 (h x hx)).1 h0, fun h0 x hx => ((h4 x hx).1 (h x hx)).2 h0⟩
  · intro h x hx
    exact (h4 x hx).2 ⟨fun h0 => h.1 h0 x hx, fun h0 => h.2 h0 x hx⟩
theorem small_eq {s : List Tile} (a b : Int) (e : Edges) (hl : s.length ≤ 9223372036854775807) : ∃ v, law02_small 3000000 s a b e = some v ∧ (v = true → validT s = true ∧ (1 ≤ a ∧ a ≤ 8 ∧ 1 ≤ b ∧ b ≤ 60) ∧ sidesB e a b = true ∧ fewB s.length a.toNat = true ∧ s.length ≤ 60 ∧ (colsS s).length ^ a.toNat ≤ 1500 ∧ s.length ^ a.toNat ≤ 40000) := by
  obtain ⟨wd, hwd⟩ : ∃ wd, law02_wide s e = some wd := ⟨_, rfl⟩
  unfold law02_small
  rw [hwd, Option.bind_some]
  cases wd
  rotate_left
  · exact ⟨false, rfl, fun h => by cases h⟩
  rw [if_pos (by decide), fault_eq hl a b e (by omega)]
  simp only [Option.bind_some]
  cases hv : validT s
  · exact ⟨false, rfl, fun h => by cases h⟩
  rw [if_pos rfl]
  by_cases hr : 1 ≤ a ∧ a ≤ 8 ∧ 1 ≤ b ∧ b ≤ 60
  rotate_left
  · rw [if_neg hr]; exact ⟨false, rfl, fun h => by cases h⟩
  rw [if_pos hr]
  cases hsd : sidesB e a b
  · exact ⟨false, rfl, fun h => by cases h⟩
  have hl1 := valid_len hv
  obtain ⟨w, rfl⟩ : ∃ w : Nat, a = w := ⟨a.toNat, by omega⟩
  rw [if_pos rfl, if_pos (by decide), great_eq s hl1 (w := w) ⟨by omega, by omega⟩ (by omega)]
  cases hf : fewB s.length w
  · exact ⟨false, rfl, fun h => by cases h⟩
  obtain ⟨hb, hhv, hh2⟩ := heavy02 s hl1 (w := w) (by omega) (k := 3000000) (by omega)
  rw [Option.bind_some, Option.bind_some, if_pos (by decide), hhv]
  cases hb
  rotate_left
  · exact ⟨false, rfl, fun h => by cases h⟩
  obtain ⟨g1, g2, g3⟩ := hh2 rfl
  rw [Int.toNat_natCast]
  exact ⟨true, rfl, fun _ => ⟨rfl, hr, rfl, hf, g1, g2, g3⟩⟩
end Gp
set_option linter.unusedVariables false
set_option linter.unusedSimpArgs false
namespace Gq
open Gw
/-! ### all lists of some colours -/
end Gq
namespace Gp
open Gw Gq
end Gp
set_option linter.unusedVariables false
set_option linter.unusedSimpArgs false
namespace Gp
open Gw Gq
end Gp
set_option linter.unusedVariables false
set_option linter.unusedSimpArgs false
namespace Gq
open Gw
def pathsC {α κ : Type} [DecidableEq κ] (B : List α) (S N : α → κ) (ft : α → Nat → Bool) (h : Nat) : Nat → κ → List (List α)
  | 0, _ => [[]]
  | n + 1, x => B.flatMap fun c => if (decide (S c = x) && ft c (h - 1 - n)) = true then (pathsC B S N ft h n (N c)).map (c :: ·) else []
theorem flat_sm {α β : Type} (B : List α) (g : α → List β) : (B.flatMap g).length = sm B fun c => (g c).length := by
  induction B with
  | nil => rfl
  | cons a B ih => rw [List.flatMap_cons, List.length_append, ih, sm_cons]
theorem pathsC_len {α κ : Type} [DecidableEq κ] (B : List α) (S N : α → κ) (ft : α → Nat → Bool) (h : Nat) : ∀ (n : Nat) (x : κ), (pathsC B S N ft h n x).length = upC B S N ft h n x
  | 0, x => rfl
  | n + 1, x => by
    rw [pathsC, flat_sm, upC]
    refine sm_congr fun c _ => ?_
    split
    · rw [List.length_map, pathsC_len B S N ft h n]
    · rfl
theorem flat_nodup {α : Type} {B : List α} (hB : B.Nodup) (q : α → Bool) (p : α → List (List α)) (hp : ∀ c ∈ B, (p c).Nodup) : (B.flatMap fun c => if q c = true then (p c).map (c :: ·) else []).Nodup := by
  induction B with
  | nil => simp
  | cons a B ih =>
    obtain ⟨h1, h2⟩ := List.nodup_cons.1 hB
    rw [List.flatMap_cons, List.nodup_append]
    refine ⟨?_, ih h2 fun c hc => hp c (List.mem_cons_of_mem _ hc), ?_⟩
    · split
      · exact List.Pairwise.map _ (fun x y hxy e => hxy (List.cons.inj e).2) (hp a (List.mem_cons_self ..))
      · exact List.nodup_nil
    · intro x hx y hy e
      split at hx
      · obtain ⟨l, _, rfl⟩ := List.mem_map.1 hx
        obtain ⟨b, hb, h⟩ := List.mem_flatMap.1 hy
        split at h
        · obtain ⟨m, _, rfl⟩ := List.mem_map.1 h
          exact h1 ((List.cons.inj e).1 ▸ hb)
        · cases h
      · cases hx
theorem pathsC_nodup {α κ : Type} [DecidableEq κ] {B : List α} (hB : B.Nodup) (S N : α → κ) (ft : α → Nat → Bool) (h : Nat) : ∀ (n : Nat) (x : κ), (pathsC B S N ft h n x).Nodup
  | 0, x => List.nodup_cons.2 ⟨by simp, List.nodup_nil⟩
  | n + 1, x => flat_nodup hB _ _ fun c _ => pathsC_nodup hB S N ft h n (N c)
theorem pathsC_mem {α κ : Type} [DecidableEq κ] (B : List α) (S N : α → κ) (ft : α → Nat → Bool) (h : Nat) (d : α) : ∀ (n : Nat) (x : κ) (l : List α), l ∈ pathsC B S N ft h n x ↔ l.length = n ∧ (∀ i, i < n → l.getD i d ∈ B ∧ ft (l.getD i d) (h - 1 - (n - 1 - i)) = true) ∧ (0 < n → S (l.getD 0 d) = x) ∧ ∀ i, i + 1 < n → S (l.getD (i + 1) d) = N (l.getD i d)
  | 0, x, l => by
    rw [pathsC, List.mem_singleton]
    constructor
    · rintro rfl; exact ⟨rfl, fun i hi => by omega, fun h => by omega, fun i hi => by omega⟩
    · rintro ⟨h, _⟩; exact List.eq_nil_of_length_eq_zero h
  | n + 1, x, l => by
    rw [pathsC, List.mem_flatMap]
    constructor
    · rintro ⟨c, hc, hl⟩
      split at hl
      · rename_i hq
        rw [Bool.and_eq_true, decide_eq_true_eq] at hq
        obtain ⟨m, hm, rfl⟩ := List.mem_map.1 hl
        obtain ⟨h1, h2, h3, h4⟩ := (pathsC_mem B S N ft h d n (N c) m).1 hm
        refine ⟨by simp [h1], fun i hi => ?_, fun _ => hq.1, fun i hi => ?_⟩
        · cases i with
          | zero => exact ⟨hc, by rw [show n + 1 - 1 - 0 = n by omega]; exact hq.2⟩
          | succ i =>
            have := h2 i (by omega)
            rw [show n - 1 - i = n + 1 - 1 - (i + 1) by omega] at this
            exact this
        · cases i with
          | zero => exact h3 (by omega)
          | succ i => exact h4 i (by omega)
      · cases hl
    · rintro ⟨h1, h2, h3, h4⟩
      cases l with
      | nil => cases h1
      | cons c m =>
        have h20 := h2 0 (by omega)
        rw [show n + 1 - 1 - 0 = n by omega] at h20
        have h20 : c ∈ B ∧ ft c (h - 1 - n) = true := h20
        have h30 : S c = x := h3 (by omega)
        refine ⟨c, h20.1, ?_⟩
        rw [if_pos (by rw [Bool.and_eq_true, decide_eq_true_eq]; exact ⟨h30, h20.2⟩)]
        refine List.mem_map.2 ⟨m, (pathsC_mem B S N ft h d n (N c) m).2 ⟨by simpa using h1, fun i hi => ?_, fun hn => h4 0 (by omega), fun i hi => h4 (i + 1) (by omega)⟩, rfl⟩
        have := h2 (i + 1) (by omega)
        rw [show n + 1 - 1 - (i + 1) = n - 1 - i by omega] at this
        exact this
end Gq
namespace Gp
open Gw Gq
def fillsL (s : List Tile) (w h : Nat) (e : Edges) : List (List (List Nat)) := (rowsL s w []).flatMap fun c => if fitC s w h e c 0 = true then (pathsC (rowsL s w []) (sideS s) (sideN s) (fitC s w h e) h (h - 1) (sideN s c)).map (c :: ·) else []
theorem rowsL_nodup (s : List Tile) : ∀ (n : Nat) (c : List Nat), (rowsL s n c).Nodup
  | 0, c => List.nodup_cons.2 ⟨by simp, List.nodup_nil⟩
  | n + 1, c => by
    rw [rowsL]
    have key : ∀ (L : List Nat), L.Nodup → (L.flatMap fun i => rowsL s n (c ++ [i])).Nodup := by
      intro L
      induction L with
      | nil => intro _; simp
      | cons a L ih =>
        intro hL
        obtain ⟨h1, h2⟩ := List.nodup_cons.1 hL
        rw [List.flatMap_cons, List.nodup_append]
        refine ⟨rowsL_nodup s n _, ih h2, fun x hx y hy e => ?_⟩
        subst e
        obtain ⟨b, hb, hy⟩ := List.mem_flatMap.1 hy
        have e1 := ((mem_rowsL0 s n _ _).1 hx).1
        have e2 := ((mem_rowsL0 s n _ _).1 hy).1
        have : c ++ [a] = c ++ [b] := by rw [← e1, ← e2]; simp
        have : a = b := by simpa using this
        exact h1 (this ▸ hb)
    exact key _ (List.Pairwise.filter _ List.nodup_range)
theorem fillsL_len (s : List Tile) {w h : Nat} (e : Edges) (hh : 1 ≤ h) : (fillsL s w h e).length = waysN s w h e := by
  unfold fillsL waysN
  rw [flat_sm, tot_up _ _ _ _ hh]
  refine sm_congr fun c _ => ?_
  split
  · rw [List.length_map, pathsC_len]
  · rfl
theorem fillsL_nodup (s : List Tile) (w h : Nat) (e : Edges) : (fillsL s w h e).Nodup := flat_nodup (rowsL_nodup s w []) _ _ fun c _ => pathsC_nodup (rowsL_nodup s w []) _ _ _ _ _ _
structure OKG (s : List Tile) (w h : Nat) (e : Edges) (g : Nat → Nat → Nat) : Prop where
  lt : ∀ y x, y < h → x < w → g y x < s.length
  right : ∀ y x, y < h → x + 1 < w → (tat s (g y x)).E = (tat s (g y (x + 1))).W
  up : ∀ y x, y + 1 < h → x < w → (tat s (g y x)).N = (tat s (g (y + 1) x)).S
  west : ∀ y, y < h → atB e.West y (tat s (g y 0)).W = true
  east : ∀ y, y < h → atB e.East y (tat s (g y (w - 1))).E = true
  south : ∀ x, x < w → atB e.South x (tat s (g 0 x)).S = true
  north : ∀ x, x < w → atB e.North x (tat s (g (h - 1) x)).N = true
def cellL (l : List (List Nat)) (y x : Nat) : Nat := (l.getD y []).getD x 0
theorem side_eq (s : List Tile) (f g : Tile → Int) (c d : List Nat) (hl : c.length = d.length) : (c.map fun i => f (tat s i)) = (d.map fun i => g (tat s i)) ↔ ∀ x, x < c.length → f (tat s (c.getD x 0)) = g (tat s (d.getD x 0)) := by
  constructor
  · intro h x hx
    have := congrArg (fun l => l[x]?) h
    simpa [List.getElem?_eq_getElem hx, List.getElem?_eq_getElem (hl ▸ hx)] using this
  · intro h
    refine List.ext_getElem (by simp [hl]) fun i h1 h2 => ?_
    have hi : i < c.length := by simpa using h1
    have := h i hi
    rw [List.getD_eq_getElem?_getD, List.getD_eq_getElem?_getD, List.getElem?_eq_getElem hi, List.getElem?_eq_getElem (hl ▸ hi)] at this
    simpa using this
theorem fillsL_mem {s : List Tile} {w h : Nat} {e : Edges} (hw : 1 ≤ w ∧ w ≤ 8) (hh : 1 ≤ h) (l : List (List Nat)) : l ∈ fillsL s w h e ↔ (l.length = h ∧ ∀ y, y < h → (l.getD y []).length = w) ∧ OKG s w h e (cellL l) := by
  have hrow : ∀ c, RowOK s w c ↔ c.length = w ∧ (∀ x, x < w → c.getD x 0 < s.length) ∧ ∀ x, x + 1 < w → (tat s (c.getD x 0)).E = (tat s (c.getD (x + 1) 0)).W := fun c => ⟨fun h => ⟨h.len, h.lt, h.adj⟩, fun h => ⟨h.1, h.2.1, h.2.2⟩⟩
  have step1 : l ∈ fillsL s w h e ↔ l.length = h ∧ (∀ y, y < h → RowOK s w (l.getD y []) ∧ fitC s w h e (l.getD y []) y = true) ∧ ∀ y, y + 1 < h → sideS s (l.getD (y + 1) []) = sideN s (l.getD y []) := by
    unfold fillsL
    rw [List.mem_flatMap]
    constructor
    · rintro ⟨c, hc, hl⟩
      split at hl
      · rename_i hq
        obtain ⟨m, hm, rfl⟩ := List.mem_map.1 hl
        obtain ⟨h1, h2, h3, h4⟩ := (pathsC_mem _ _ _ _ _ [] _ _ m).1 hm
        refine ⟨by simp [h1]; omega, fun y hy => ?_, fun y hy => ?_⟩
        · cases y with
          | zero => exact ⟨(mem_rowsL s w c).1 hc, hq⟩
          | succ y =>
            have := h2 y (by omega)
            rw [show h - 1 - (h - 1 - 1 - y) = y + 1 by omega] at this
            exact ⟨(mem_rowsL s w _).1 this.1, this.2⟩
        · cases y with
          | zero => exact h3 (by omega)
          | succ y => exact h4 y (by omega)
      · cases hl
    · rintro ⟨h1, h2, h3⟩
      cases l with
      | nil => simp at h1; omega
      | cons c m =>
        have h20 := h2 0 (by omega)
        have h20 : RowOK s w c ∧ fitC s w h e c 0 = true := h20
        refine ⟨c, (mem_rowsL s w c).2 h20.1, ?_⟩
        rw [if_pos h20.2]
        refine List.mem_map.2 ⟨m, (pathsC_mem _ _ _ _ _ [] _ _ m).2 ⟨by simp at h1; omega, fun i hi => ?_, fun hn => h3 0 (by omega), fun i hi => h3 (i + 1) (by omega)⟩, rfl⟩
        have := h2 (i + 1) (by omega)
        rw [show h - 1 - (h - 1 - 1 - i) = i + 1 by omega]
        exact ⟨(mem_rowsL s w _).2 this.1, this.2⟩
  rw [step1]
  constructor
  · rintro ⟨h1, h2, h3⟩
    have hr := fun y hy => (hrow _).1 (h2 y hy).1
    have ha : ∀ y, (hy : y < h) → _ := fun y hy => (al_iff (h2 y hy).1 hw y).1 (h2 y hy).2
    refine ⟨⟨h1, fun y hy => (hr y hy).1⟩, fun y x hy hx => (hr y hy).2.1 x hx, fun y x hy hx => (hr y hy).2.2 x hx, fun y x hy hx => ?_, fun y hy => (ha y hy).1, fun y hy => (ha y hy).2.1, fun x hx => (ha 0 (by omega)).2.2.1 rfl x hx, fun x hx => (ha (h - 1) (by omega)).2.2.2 (by omega) x hx⟩
    have l0 := (hr y (by omega)).1
    have l1 := (hr (y + 1) hy).1
    exact ((side_eq s Tile.S Tile.N _ _ (by omega)).1 (h3 y hy) x (by omega)).symm
  · rintro ⟨⟨h1, h2⟩, g⟩
    have hr : ∀ y, y < h → RowOK s w (l.getD y []) := fun y hy => (hrow _).2 ⟨h2 y hy, fun x hx => g.lt y x hy hx, fun x hx => g.right y x hy hx⟩
    refine ⟨h1, fun y hy => ⟨hr y hy, (al_iff (hr y hy) hw y).2 ⟨g.west y hy, g.east y hy, fun h0 x hx => ?_, fun h0 x hx => ?_⟩⟩, fun y hy => ?_⟩
    · subst h0; exact g.south x hx
    · obtain rfl : y = h - 1 := by omega
      exact g.north x hx
    · have l0 := h2 y (by omega)
      have l1 := h2 (y + 1) hy
      exact (side_eq s Tile.S Tile.N _ _ (by omega)).2 fun x hx => (g.up y x hy (by omega)).symm
def mkL (w h : Nat) (g : Nat → Nat → Nat) : List (List Nat) := (List.range h).map fun y => (List.range w).map fun x => g y x
theorem mkL_row (w h : Nat) (g : Nat → Nat → Nat) {y : Nat} (hy : y < h) : (mkL w h g).getD y [] = (List.range w).map fun x => g y x := by simp [mkL, List.getElem?_range hy]
theorem mkL_cell (w h : Nat) (g : Nat → Nat → Nat) {y x : Nat} (hy : y < h) (hx : x < w) : cellL (mkL w h g) y x = g y x := by
  unfold cellL
  rw [mkL_row w h g hy]
  simp [List.getElem?_range hx]
theorem OKG.congr {s : List Tile} {w h : Nat} {e : Edges} {g g' : Nat → Nat → Nat} (hw : 1 ≤ w) (hh : 1 ≤ h) (hg : ∀ y x, y < h → x < w → g' y x = g y x) (o : OKG s w h e g) : OKG s w h e g' := by
  refine ⟨fun y x hy hx => ?_, fun y x hy hx => ?_, fun y x hy hx => ?_, fun y hy => ?_, fun y hy => ?_, fun x hx => ?_, fun x hx => ?_⟩
  · rw [hg y x hy hx]; exact o.lt y x hy hx
  · rw [hg y x hy (by omega), hg y (x + 1) hy hx]; exact o.right y x hy hx
  · rw [hg y x (by omega) hx, hg (y + 1) x hy hx]; exact o.up y x hy hx
  · rw [hg y 0 hy (by omega)]; exact o.west y hy
  · rw [hg y (w - 1) hy (by omega)]; exact o.east y hy
  · rw [hg 0 x (by omega) hx]; exact o.south x hx
  · rw [hg (h - 1) x (by omega) hx]; exact o.north x hx
theorem ways_le {s s' : List Tile} {w h w' h' : Nat} {e e' : Edges} (hw : 1 ≤ w ∧ w ≤ 8) (hh : 1 ≤ h) (hw' : 1 ≤ w' ∧ w' ≤ 8) (hh' : 1 ≤ h') (T : (Nat → Nat → Nat) → Nat → Nat → Nat) (hT : ∀ g, OKG s w h e g → OKG s' w' h' e' (T g)) (hi : ∀ g g', (∀ y x, y < h' → x < w' → T g y x = T g' y x) → ∀ y x, y < h → x < w → g y x = g' y x) : waysN s w h e ≤ waysN s' w' h' e' := by
  rw [← fillsL_len s e hh, ← fillsL_len s' e' hh', ← List.length_map (f := fun l => mkL w' h' (T (cellL l)))]
  refine length_le_sub _ _ ?_ ?_
  · have hn := fillsL_nodup s w h e
    have key : ∀ (L : List (List (List Nat))), (∀ l ∈ L, l ∈ fillsL s w h e) → L.Nodup → (L.map fun l => mkL w' h' (T (cellL l))).Nodup := by
      intro L
      induction L with
      | nil => intro _ _; simp
      | cons a L ih =>
        intro hL hN
        obtain ⟨h1, h2⟩ := List.nodup_cons.1 hN
        rw [List.map_cons]
        refine List.nodup_cons.2 ⟨fun hm => ?_, ih (fun l hl => hL l (List.mem_cons_of_mem _ hl)) h2⟩
        obtain ⟨b, hb, he⟩ := List.mem_map.1 hm
        obtain ⟨⟨a1, a2⟩, _⟩ := (fillsL_mem hw hh a).1 (hL a (List.mem_cons_self ..))
        obtain ⟨⟨b1, b2⟩, _⟩ := (fillsL_mem hw hh b).1 (hL b (List.mem_cons_of_mem _ hb))
        have hc := hi (cellL b) (cellL a) fun y x hy hx => by rw [← mkL_cell w' h' (T (cellL b)) hy hx, ← mkL_cell w' h' (T (cellL a)) hy hx, he]
        have : b = a := by
          refine List.ext_getElem (by omega) fun y y1 y2 => ?_
          have r1 := a2 y (by omega)
          have r2 := b2 y (by omega)
          rw [List.getD_eq_getElem?_getD, List.getElem?_eq_getElem y2] at r1
          rw [List.getD_eq_getElem?_getD, List.getElem?_eq_getElem y1] at r2
          simp only [Option.getD_some] at r1 r2
          refine List.ext_getElem (by omega) fun x x1 x2 => ?_
          have := hc y x (by omega) (by omega)
          unfold cellL at this
          rw [List.getD_eq_getElem?_getD (l := b), List.getElem?_eq_getElem y1, List.getD_eq_getElem?_getD (l := a), List.getElem?_eq_getElem y2] at this
          simpa [List.getElem?_eq_getElem x1, List.getElem?_eq_getElem x2] using this
        exact h1 (this ▸ hb)
    exact key _ (fun l hl => hl) hn
  · intro l hl
    obtain ⟨a, ha, rfl⟩ := List.mem_map.1 hl
    obtain ⟨_, g⟩ := (fillsL_mem hw hh a).1 ha
    refine (fillsL_mem hw' hh' _).2 ⟨⟨by simp [mkL], fun y hy => by rw [mkL_row w' h' _ hy]; simp⟩, (hT _ g).congr hw'.1 hh' fun y x hy hx => mkL_cell w' h' _ hy hx⟩
theorem at_rev {l : List Int} {n x : Nat} (hl : l.length = 0 ∨ l.length = n) (hx : x < n) (c : Int) : atB l.reverse x c = atB l (n - 1 - x) c := by
  unfold atB
  rw [List.length_reverse]
  rcases hl with h | h
  · rw [decide_eq_true h]; rfl
  · congr 2
    rw [List.getD_eq_getElem?_getD, List.getD_eq_getElem?_getD, List.getElem?_reverse (by omega), h]
def mirE (e : Edges) : Edges := ⟨e.North.reverse, e.West, e.South.reverse, e.East⟩
def upE (e : Edges) : Edges := ⟨e.South, e.East.reverse, e.North, e.West.reverse⟩
def turnE (e : Edges) : Edges := ⟨e.West, e.North.reverse, e.East, e.South.reverse⟩
theorem okg_mir {s : List Tile} {w h : Nat} {e : Edges} (he : EdgeOK e w h) (hw : 1 ≤ w) {g : Nat → Nat → Nat} (hh : 1 ≤ h) (o : OKG s w h e g) : OKG (s.map mirT) w h (mirE e) fun y x => g y (w - 1 - x) := by
  have t : ∀ y x, y < h → x < w → tat (s.map mirT) (g y (w - 1 - x)) = mirT (tat s (g y (w - 1 - x))) := fun y x hy hx => tat_map mirT (o.lt y _ hy (by omega))
  refine ⟨fun y x hy hx => ?_, fun y x hy hx => ?_, fun y x hy hx => ?_, fun y hy => ?_, fun y hy => ?_, fun x hx => ?_, fun x hx => ?_⟩
  · rw [List.length_map]; exact o.lt y _ hy (by omega)
  · rw [t y x hy (by omega), t y (x + 1) hy hx]
    have := o.right y (w - 1 - (x + 1)) hy (by omega)
    rw [show w - 1 - (x + 1) + 1 = w - 1 - x by omega] at this
    exact this.symm
  · rw [t y x (by omega) hx, t (y + 1) x hy hx]; exact o.up y _ hy (by omega)
  · rw [t y 0 hy (by omega)]; exact o.east y hy
  · rw [t y (w - 1) hy (by omega), show w - 1 - (w - 1) = 0 by omega]; exact o.west y hy
  · rw [t 0 x (by omega) hx]
    show atB e.South.reverse x _ = true
    rw [at_rev he.s hx]; exact o.south _ (by omega)
  · rw [t (h - 1) x (by omega) hx]
    show atB e.North.reverse x _ = true
    rw [at_rev he.n hx]; exact o.north _ (by omega)
theorem okg_up {s : List Tile} {w h : Nat} {e : Edges} (he : EdgeOK e w h) (hw : 1 ≤ w) {g : Nat → Nat → Nat} (hh : 1 ≤ h) (o : OKG s w h e g) : OKG (s.map upT) w h (upE e) fun y x => g (h - 1 - y) x := by
  have t : ∀ y x, y < h → x < w → tat (s.map upT) (g (h - 1 - y) x) = upT (tat s (g (h - 1 - y) x)) := fun y x hy hx => tat_map upT (o.lt _ x (by omega) hx)
  refine ⟨fun y x hy hx => ?_, fun y x hy hx => ?_, fun y x hy hx => ?_, fun y hy => ?_, fun y hy => ?_, fun x hx => ?_, fun x hx => ?_⟩
  · rw [List.length_map]; exact o.lt _ x (by omega) hx
  · rw [t y x hy (by omega), t y (x + 1) hy hx]; exact o.right _ x (by omega) hx
  · rw [t y x (by omega) hx, t (y + 1) x hy hx]
    have := o.up (h - 1 - (y + 1)) x (by omega) hx
    rw [show h - 1 - (y + 1) + 1 = h - 1 - y by omega] at this
    exact this.symm
  · rw [t y 0 hy (by omega)]
    show atB e.West.reverse y _ = true
    rw [at_rev he.we hy]; exact o.west _ (by omega)
  · rw [t y (w - 1) hy (by omega)]
    show atB e.East.reverse y _ = true
    rw [at_rev he.ea hy]; exact o.east _ (by omega)
  · rw [t 0 x (by omega) hx]; exact o.north x hx
  · rw [t (h - 1) x (by omega) hx, show h - 1 - (h - 1) = 0 by omega]; exact o.south x hx
theorem okg_turn {s : List Tile} {w h : Nat} {e : Edges} (he : EdgeOK e w h) (hw : 1 ≤ w) {g : Nat → Nat → Nat} (hh : 1 ≤ h) (o : OKG s w h e g) : OKG (s.map turnT) h w (turnE e) fun y x => g x (w - 1 - y) := by
  have t : ∀ y x, y < w → x < h → tat (s.map turnT) (g x (w - 1 - y)) = turnT (tat s (g x (w - 1 - y))) := fun y x hy hx => tat_map turnT (o.lt x _ hx (by omega))
  refine ⟨fun y x hy hx => ?_, fun y x hy hx => ?_, fun y x hy hx => ?_, fun y hy => ?_, fun y hy => ?_, fun x hx => ?_, fun x hx => ?_⟩
  · rw [List.length_map]; exact o.lt x _ hx (by omega)
  · rw [t y x hy (by omega), t y (x + 1) hy hx]; exact o.up x _ hx (by omega)
  · rw [t y x (by omega) hx, t (y + 1) x hy hx]
    have := o.right x (w - 1 - (y + 1)) hx (by omega)
    rw [show w - 1 - (y + 1) + 1 = w - 1 - y by omega] at this
    exact this.symm
  · rw [t y 0 hy (by omega)]
    show atB e.South.reverse y _ = true
    rw [at_rev he.s hy]; exact o.south _ (by omega)
  · rw [t y (h - 1) hy (by omega)]
    show atB e.North.reverse y _ = true
    rw [at_rev he.n hy]; exact o.north _ (by omega)
  · rw [t 0 x (by omega) hx]; exact o.east x hx
  · rw [t (w - 1) x (by omega) hx, show w - 1 - (w - 1) = 0 by omega]; exact o.west x hx
theorem rev_or {l : List Int} {n : Nat} (h : l.length = 0 ∨ l.length = n) : l.reverse.length = 0 ∨ l.reverse.length = n := by rw [List.length_reverse]; exact h
theorem edge_mir {e : Edges} {w h : Nat} (he : EdgeOK e w h) : EdgeOK (mirE e) w h := ⟨rev_or he.n, rev_or he.s, he.we, he.ea⟩
theorem edge_up {e : Edges} {w h : Nat} (he : EdgeOK e w h) : EdgeOK (upE e) w h := ⟨he.s, he.n, rev_or he.ea, rev_or he.we⟩
theorem edge_turn {e : Edges} {w h : Nat} (he : EdgeOK e w h) : EdgeOK (turnE e) h w := ⟨he.we, he.ea, rev_or he.n, rev_or he.s⟩
theorem le_mir {s : List Tile} {w h : Nat} {e : Edges} (he : EdgeOK e w h) (hw : 1 ≤ w ∧ w ≤ 8) (hh : 1 ≤ h) : waysN s w h e ≤ waysN (s.map mirT) w h (mirE e) :=
  ways_le hw hh hw hh (fun g y x => g y (w - 1 - x)) (fun g o => okg_mir he hw.1 hh o) fun g g' hg y x hy hx => by
    have : g y (w - 1 - (w - 1 - x)) = g' y (w - 1 - (w - 1 - x)) := hg y (w - 1 - x) hy (by omega)
    rw [show w - 1 - (w - 1 - x) = x by omega] at this; exact this
theorem le_up {s : List Tile} {w h : Nat} {e : Edges} (he : EdgeOK e w h) (hw : 1 ≤ w ∧ w ≤ 8) (hh : 1 ≤ h) : waysN s w h e ≤ waysN (s.map upT) w h (upE e) :=
  ways_le hw hh hw hh (fun g y x => g (h - 1 - y) x) (fun g o => okg_up he hw.1 hh o) fun g g' hg y x hy hx => by
    have : g (h - 1 - (h - 1 - y)) x = g' (h - 1 - (h - 1 - y)) x := hg (h - 1 - y) x (by omega) hx
    rw [show h - 1 - (h - 1 - y) = y by omega] at this; exact this
theorem le_turn {s : List Tile} {w h : Nat} {e : Edges} (he : EdgeOK e w h) (hw : 1 ≤ w ∧ w ≤ 8) (hh : 1 ≤ h ∧ h ≤ 8) : waysN s w h e ≤ waysN (s.map turnT) h w (turnE e) :=
  ways_le hw hh.1 hh hw.1 (fun g y x => g x (w - 1 - y)) (fun g o => okg_turn he hw.1 hh.1 o) fun g g' hg y x hy hx => by
    have : g y (w - 1 - (w - 1 - x)) = g' y (w - 1 - (w - 1 - x)) := hg (w - 1 - x) y (by omega) hy
    rw [show w - 1 - (w - 1 - x) = x by omega] at this; exact this
theorem ways_mir {s : List Tile} {w h : Nat} {e : Edges} (he : EdgeOK e w h) (hw : 1 ≤ w ∧ w ≤ 8) (hh : 1 ≤ h) : waysN (s.map mirT) w h (mirE e) = waysN s w h e := by
  have h1 := le_mir (s := s) he hw hh
  have h2 := le_mir (s := s.map mirT) (edge_mir he) hw hh
  have e1 : (s.map mirT).map mirT = s := by rw [List.map_map]; exact List.map_id s
  have e2 : mirE (mirE e) = e := by cases e; simp [mirE]
  rw [e1, e2] at h2
  omega
theorem ways_up {s : List Tile} {w h : Nat} {e : Edges} (he : EdgeOK e w h) (hw : 1 ≤ w ∧ w ≤ 8) (hh : 1 ≤ h) : waysN (s.map upT) w h (upE e) = waysN s w h e := by
  have h1 := le_up (s := s) he hw hh
  have h2 := le_up (s := s.map upT) (edge_up he) hw hh
  have e1 : (s.map upT).map upT = s := by rw [List.map_map]; exact List.map_id s
  have e2 : upE (upE e) = e := by cases e; simp [upE]
  rw [e1, e2] at h2
  omega
theorem ways_turn {s : List Tile} {w h : Nat} {e : Edges} (he : EdgeOK e w h) (hw : 1 ≤ w ∧ w ≤ 8) (hh : 1 ≤ h ∧ h ≤ 8) : waysN (s.map turnT) h w (turnE e) = waysN s w h e := by
  have h1 := le_turn (s := s) he hw hh
  have h2 := le_turn (s := s.map turnT) (edge_turn he) hh hw
  have h3 := le_turn (s := (s.map turnT).map turnT) (edge_turn (edge_turn he)) hw hh
  have h4 := le_turn (s := ((s.map turnT).map turnT).map turnT) (edge_turn (edge_turn (edge_turn he))) hh hw
  have e2 : turnE (turnE (turnE (turnE e))) = e := by cases e; simp [turnE]
  rw [turn4 s, e2] at h4
  omega
theorem back02 (l : List Int) (hl : l.length ≤ 1000000) {k : Nat} (hk : l.length < k) : law02_back k l = some l.reverse := by
  have key : ∀ (d k : Nat), d ≤ l.length → d < k → law02_back.l0 k ((l.drop d).reverse) ((d : Int) - 1) l = some l.reverse := by
    intro d
    induction d with
    | zero =>
      intro k _ hk
      obtain ⟨k, rfl⟩ : ∃ m, k = m + 1 := ⟨k - 1, by omega⟩
      rw [law02_back.l0, if_neg (by simp), List.drop_zero]
    | succ d ih =>
      intro k hd hk
      obtain ⟨k, rfl⟩ : ∃ m, k = m + 1 := ⟨k - 1, by omega⟩
      have e1 : ((d + 1 : Nat) : Int) - 1 = (d : Int) := by omega
      have hwd : w64 ((d : Int) - 1) = (d : Int) - 1 := w64_id (by omega) (by omega)
      rw [e1, law02_back.l0, if_pos (by simp), if_pos (by omega), if_pos (by simp; omega), rdD_get (show d < l.length by omega), hwd]
      have : (l.drop (d + 1)).reverse ++ [l[d]] = (l.drop d).reverse := by
        rw [List.drop_eq_getElem_cons (show d < l.length by omega), List.reverse_cons]
      rw [this]
      exact ih k (by omega) (by omega)
  have := key l.length k (Nat.le_refl _) hk
  rw [List.drop_length] at this
  have hwl : w64 ((l.length : Int) - 1) = (l.length : Int) - 1 := w64_id (by omega) (by omega)
  unfold law02_back
  rw [hwl]
  have this : law02_back.l0 k [] ((l.length : Int) - 1) l = _ := this
  rw [this]; rfl
theorem sides_of {e : Edges} {w h : Nat} (he : EdgeOK e w h) : sidesB e w h = true := by
  obtain ⟨h1, h2, h3, h4⟩ := he
  unfold sidesB
  simp only [Bool.and_eq_true, Bool.or_eq_true, decide_eq_true_eq]
  omega
theorem law02_FillTurned_pure : ∀ (p0 : List Tile) (p1 : Int) (p2 : Int) (p3 : Edges), ((∀ x ∈ p0, ok_Tile x) ∧ p0.length ≤ Go.maxLen) → (ok64 p1) → (ok64 p2) → (ok_Edges p3) → ∃ k, law02_FillTurned k p0 p1 p2 p3 = some true := by
  intro s a b e hs _ _ _
  have hl : s.length ≤ 9223372036854775807 := hs.2
  refine ⟨3000000, ?_⟩
  have aw : law02_awake 3000000 = some true := awake02_ok 2999700
  unfold law02_FillTurned
  obtain ⟨v, hv1, hv2⟩ := small_eq a b e hl
  rw [hv1, Option.bind_some]
  cases v
  · rw [if_pos (by decide), aw]; rfl
  obtain ⟨hv, hr, hsd, hf, g1, g2, g3⟩ := hv2 rfl
  have hl1 := valid_len hv
  obtain ⟨w, rfl⟩ : ∃ w : Nat, a = w := ⟨a.toNat, by omega⟩
  obtain ⟨h, rfl⟩ : ∃ h : Nat, b = h := ⟨b.toNat, by omega⟩
  rw [Int.toNat_natCast] at hf g2 g3
  have hw : 1 ≤ w ∧ w ≤ 8 := by omega
  have hh : 1 ≤ h ∧ h ≤ 60 := by omega
  have he := edge_of hsd
  have hn := he.n; have hso := he.s; have hea := he.ea; have hwe := he.we
  have cm : countX (s.map mirT) w h (mirE e) = countX s w h e := by unfold countX; rw [ways_mir he hw hh.1]
  have cu : countX (s.map upT) w h (upE e) = countX s w h e := by unfold countX; rw [ways_up he hw hh.1]
  have c1 := count_ok (s.map mirT) w h (mirE e) (chg_mir.valid hv) hw hh (sides_of (edge_mir he)) (by rw [List.length_map]; exact hf) (k := 3000000) (by omega)
  have c2 := count_ok (s.map upT) w h (upE e) (chg_up.valid hv) hw hh (sides_of (edge_up he)) (by rw [List.length_map]; exact hf) (k := 3000000) (by omega)
  have bN := back02 e.North (by omega) (k := 3000000) (by omega)
  have bS := back02 e.South (by omega) (k := 3000000) (by omega)
  have bE := back02 e.East (by omega) (k := 3000000) (by omega)
  have bW := back02 e.West (by omega) (k := 3000000) (by omega)
  rw [if_neg (by decide), count_ok s w h e hv hw hh hsd hf (by omega), Option.bind_some, chset0 hv (by omega), Option.bind_some, chset1 hv (by omega), Option.bind_some, chset2 hv (by omega), Option.bind_some, if_neg (show ¬ ((((0 : Int) != 0) || ((0 : Int) != 0)) || ((0 : Int) != 0)) = true by decide), bN, Option.bind_some, bS, Option.bind_some]
  show (Option.bind (fill_Count 3000000 (s.map mirT) w h (mirE e)) _) = _
  rw [c1, Option.bind_some, bE, Option.bind_some, bW, Option.bind_some]
  show (Option.bind (fill_Count 3000000 (s.map upT) w h (upE e)) _) = _
  rw [c2, Option.bind_some, cm, cu, if_neg (by simp), Option.bind_some, Option.bind_some, Option.bind_some]
  show (Option.bind (law02_small 3000000 (s.map turnT) h w (turnE e)) _) = _
  obtain ⟨v2, hv3, hv4⟩ := small_eq (s := s.map turnT) h w (turnE e) (by rw [List.length_map]; exact hl)
  rw [hv3, Option.bind_some]
  cases v2
  · rw [if_pos (by decide), aw]; rfl
  obtain ⟨tv, tr, tsd, tf, _⟩ := hv4 rfl
  rw [Int.toNat_natCast] at tf
  have hh8 : 1 ≤ h ∧ h ≤ 8 := by omega
  have ct : countX (s.map turnT) h w (turnE e) = countX s w h e := by unfold countX; rw [ways_turn he hw hh8]
  have c3 := count_ok (s.map turnT) h w (turnE e) tv hh8 ⟨hw.1, by omega⟩ tsd tf (k := 3000000) (by omega)
  rw [if_neg (by decide)]
  show (Option.bind (fill_Count 3000000 (s.map turnT) h w (turnE e)) _) = _
  rw [c3, Option.bind_some, ct, if_pos (by simp), aw]; rfl
end Gp
