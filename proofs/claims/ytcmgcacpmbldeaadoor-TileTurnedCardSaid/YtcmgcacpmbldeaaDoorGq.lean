/- The plain law: what the functions compute answers as the statement says. -/
import Derived.Test.YtcmgcacpmbldeaaDoorGp
import Derived.KernelRfl
set_option linter.unusedVariables false
set_option linter.unusedSimpArgs false
namespace Gq
open Go Gw Gp
/-! ### numbers and lists -/
theorem w64_id {n : Int} (h0 : -9223372036854775808 ≤ n) (h1 : n ≤ 9223372036854775807) : w64 n = n := by
  show IntKind.i64.wrap n = n
  have e : IntKind.i64.wrap n = if (true && decide (n % 18446744073709551616 ≥ 9223372036854775808)) = true then n % 18446744073709551616 - 18446744073709551616 else n % 18446744073709551616 := rfl
  rw [e]
  simp only [Bool.true_and, decide_eq_true_eq]
  split <;> omega
theorem rdD_nat {α : Type} (xs : List α) (i : Nat) (d : α) : rdD xs (i : Int) d = xs.getD i d := by simp [rdD]
theorem rdD_get {α : Type} {xs : List α} {i : Nat} (h : i < xs.length) (d : α) : rdD xs (i : Int) d = xs[i] := by
  simp [rdD, List.getD, List.getElem?_eq_getElem h]
def firstS {α β : Type} (g : Nat → α → Option β) : Nat → List α → Option β
  | _, [] => none
  | i, a :: r => match g i a with
    | some b => some b
    | none => firstS g (i + 1) r
def fin {β : Type} : Option β → Sum β Unit
  | some b => .inl b
  | none => .inr ()
theorem scan {α β : Type} {F : Nat → Int → Option (Sum β Unit)} {xs : List α} {g : Nat → α → Option β}
    (hF : ∀ k (i : Nat), i ≤ xs.length → F (k + 1) (i : Int) = if h : i < xs.length then (match g i xs[i] with | some b => some (.inl b) | none => F k ((i + 1 : Nat) : Int)) else some (.inr ())) :
    ∀ (n k i : Nat), i + n = xs.length → n < k → F k (i : Int) = some (fin (firstS g i (xs.drop i)))
  | 0, k, i, hi, hk => by
    obtain ⟨k, rfl⟩ : ∃ m, k = m + 1 := ⟨k - 1, by omega⟩
    have hi : i = xs.length := by omega
    subst hi
    rw [hF k _ (Nat.le_refl _), dif_neg (Nat.lt_irrefl _), List.drop_length]; rfl
  | n + 1, k, i, hi, hk => by
    obtain ⟨k, rfl⟩ : ∃ m, k = m + 1 := ⟨k - 1, by omega⟩
    have hlt : i < xs.length := by omega
    rw [hF k i (by omega), dif_pos hlt, List.drop_eq_getElem_cons hlt, firstS]
    cases hg : g i xs[i] with
    | some b => rfl
    | none => exact scan hF n k (i + 1) (by omega) (by omega)
theorem firstS_none {α β : Type} {g : Nat → α → Option β} {p : α → Bool} (hp : ∀ i a, g i a = none ↔ p a = true) : ∀ (i : Nat) (xs : List α), firstS g i xs = none ↔ xs.all p = true
  | i, [] => by simp [firstS]
  | i, a :: r => by
    rw [firstS, List.all_cons]
    cases hg : g i a with
    | some b =>
      have : ¬ p a = true := fun h => by rw [(hp i a).2 h] at hg; cases hg
      simp [this]
    | none => rw [(hp i a).1 hg]; simpa using firstS_none hp (i + 1) r
end Gq
set_option linter.unusedVariables false
set_option linter.unusedSimpArgs false
namespace Gp
open Gw Gq
/-! ### valid machines -/
theorem firstS_ge {α : Type} {p : α → Bool} : ∀ (xs : List α) (i : Nat), (match firstS (fun i a => if p a = true then none else some (i : Int)) i xs with | some j => decide (j ≥ 0) | none => false) = !xs.all p
  | [], i => rfl
  | a :: r, i => by
    rw [firstS]
    cases h : p a
    · simp [h]
    · simpa [h] using firstS_ge r (i + 1)
/-! the reference -/
theorem firstS_const {α : Type} {p : α → Bool} : ∀ (xs : List α) (i : Nat), firstS (fun _ a => if p a = true then none else some false) i xs = if xs.all p = true then none else some false
  | [], i => rfl
  | a :: r, i => by
    rw [firstS]
    cases h : p a
    · simp [h]
    · simp only [h, if_true, List.all_cons, Bool.true_and]; exact firstS_const r (i + 1)
end Gp
set_option linter.unusedVariables false
set_option linter.unusedSimpArgs false
namespace Gp
open Gw Gq
/-! ### configurations -/
/-! equality -/
theorem firstS_eq (b : List Int) : ∀ (a : List Int) (i : Nat), i + a.length = b.length → firstS (fun i x => if x = b.getD i 0 then none else some false) i a = if a = b.drop i then none else some false
  | [], i, h => by
    have : b.drop i = [] := List.drop_eq_nil_of_le (by simp at h; omega)
    simp [firstS, this]
  | x :: r, i, h => by
    have hi : i < b.length := by simp at h; omega
    rw [firstS, List.drop_eq_getElem_cons hi, firstS_eq b r (i + 1) (by simp at h; omega)]
    have hg : b.getD i 0 = b[i] := by simp [List.getD, List.getElem?_eq_getElem hi]
    rw [hg]
    by_cases hx : x = b[i]
    · subst hx
      rw [if_pos rfl]
      by_cases hr : r = b.drop (i + 1)
      · rw [if_pos hr, if_pos (by rw [hr])]
      · rw [if_neg hr, if_neg (fun h => hr (List.cons.inj h).2)]
    · rw [if_neg hx, if_neg (fun h => hx (List.cons.inj h).1)]
end Gp
set_option linter.unusedVariables false
set_option linter.unusedSimpArgs false
namespace Gp
open Gw Gq
/-! ### steps -/
theorem rdD_mem {α : Type} {xs : List α} {i : Int} (h0 : 0 ≤ i) (h1 : i < (xs.length : Int)) (d : α) : rdD xs i d ∈ xs := by
  have : i.toNat < xs.length := by omega
  unfold rdD
  rw [List.getD_eq_getElem?_getD, List.getElem?_eq_getElem this]
  simp
/-! ### runs -/
end Gp
set_option linter.unusedVariables false
set_option linter.unusedSimpArgs false
namespace Gp
open Gw Gq
end Gp
set_option linter.unusedVariables false
set_option linter.unusedSimpArgs false
namespace Gq
theorem loop_to {σ τ : Type} {F : Nat → Int → σ → Option τ} {S : Nat → σ} {n K : Nat} {r : τ} (hs : ∀ k i, K ≤ k → i < n → F (k + 1) (i : Int) (S i) = F k ((i + 1 : Nat) : Int) (S (i + 1))) (he : ∀ k, F (k + 1) (n : Int) (S n) = some r) :
    ∀ k, n + K < k → F k 0 (S 0) = some r := by
  have key : ∀ d i k, i + d = n → d + K < k → F k (i : Int) (S i) = some r := by
    intro d
    induction d with
    | zero =>
      intro i k hi hk
      obtain ⟨k, rfl⟩ : ∃ m, k = m + 1 := ⟨k - 1, by omega⟩
      have : i = n := by omega
      subst this; exact he k
    | succ d ih =>
      intro i k hi hk
      obtain ⟨k, rfl⟩ : ∃ m, k = m + 1 := ⟨k - 1, by omega⟩
      rw [hs k i (by omega) (by omega)]
      exact ih (i + 1) k (by omega) (by omega)
  intro k hk
  exact key n 0 k (by omega) hk
theorem range_mul {α : Type} (f : Nat → List α) (Y : Nat) : ∀ S : Nat, (List.range (S * Y)).flatMap f = (List.range S).flatMap fun q => (List.range Y).flatMap fun s => f (q * Y + s)
  | 0 => by simp
  | S + 1 => by
    rw [Nat.add_mul, Nat.one_mul, List.range_add, List.flatMap_append, range_mul f Y S, List.range_succ, List.flatMap_append, List.flatMap_map]
    simp
theorem flat_succ {α : Type} (f : Nat → List α) (n : Nat) : (List.range (n + 1)).flatMap f = (List.range n).flatMap f ++ f n := by
  rw [List.range_succ, List.flatMap_append]; simp
theorem map_succ {α : Type} (f : Nat → α) (n : Nat) : (List.range (n + 1)).map f = (List.range n).map f ++ [f n] := by
  rw [List.range_succ, List.map_append]; simp
theorem flat_len1 {α : Type} {f : Nat → List α} {b : Nat} (hf : ∀ i, (f i).length ≤ b) : ∀ n, ((List.range n).flatMap f).length ≤ n * b
  | 0 => by simp
  | n + 1 => by
    rw [flat_succ, List.length_append, Nat.add_mul, Nat.one_mul]
    have := flat_len1 hf n
    have := hf n
    omega
end Gq
namespace Gp
open Gw Gq
/-! ### the tiles of a machine -/
def hd (Y q s : Nat) : Int := ((Y + q * Y + s : Nat) : Int)
def symT (s : Nat) : Tile := ⟨s, 0, s, 0⟩
def arrL (S Y q s : Nat) : List Tile := [⟨hd Y q s, 0, s, 1 + q⟩, ⟨hd Y q s, 1 + S + q, s, 0⟩]
def symL (Y n : Nat) : List Tile := (List.range n).map symT
end Gp
set_option linter.unusedVariables false
set_option linter.unusedSimpArgs false
namespace Gp
open Gw Gq
theorem arr_len (S Y q n : Nat) : ((List.range n).flatMap (arrL S Y q)).length ≤ n * 2 := flat_len1 (fun i => by simp [arrL]) n
theorem arrs_len (S Y n : Nat) : ((List.range n).flatMap fun q => (List.range Y).flatMap (arrL S Y q)).length ≤ n * (Y * 2) := flat_len1 (fun q => arr_len S Y q Y) n
/-! the reference -/
/-! equal sets -/
theorem set_loop (a : List Tile) (hl : a.length ≤ 1000000) (k : Nat) (hk : a.length < k) : ref01_SameSet.l0 k 0 a a = some (.inr ()) := by
  have := scan (F := fun k i => ref01_SameSet.l0 k i a a) (xs := a) (g := fun _ _ => (none : Option Bool)) (fun k i hi => by
    show ref01_SameSet.l0 (k + 1) i a a = _
    rw [ref01_SameSet.l0]
    by_cases h : i < a.length
    · have h2 : 0 ≤ (i : Int) ∧ (i : Int) < (a.length : Int) := by omega
      rw [dif_pos h, if_pos (by simpa using h), if_pos h2, if_pos h2, if_neg (by simp), w64_id (by omega) (by omega)]; rfl
    · rw [dif_neg h, if_neg (by simpa using h)]) a.length k 0 (by simp) hk
  have hn : ∀ (l : List Tile) (i : Nat), firstS (fun _ _ => (none : Option Bool)) i l = none := by
    intro l
    induction l with
    | nil => intro i; rfl
    | cons x r ih => intro i; exact ih (i + 1)
  simpa [hn, fin] using this
theorem sameset_refl (a : List Tile) (hl : a.length ≤ 1000000) (k : Nat) (hk : a.length < k) : ref01_SameSet k a a = some true := by
  unfold ref01_SameSet
  rw [if_neg (by simp), set_loop a hl k hk]; rfl
end Gp
set_option linter.unusedVariables false
set_option linter.unusedSimpArgs false
namespace Gp
open Gw Gq
/-! ### colours -/
theorem same_list (a : List Int) (hl : a.length ≤ 1000000) (k : Nat) (hk : a.length < k) : ref01_Same k a a = some true := by
  have := scan (F := fun k i => ref01_Same.l0 k i a a) (xs := a) (g := fun _ _ => (none : Option Bool)) (fun k i hi => by
    show ref01_Same.l0 (k + 1) i a a = _
    rw [ref01_Same.l0]
    by_cases h : i < a.length
    · have h2 : 0 ≤ (i : Int) ∧ (i : Int) < (a.length : Int) := by omega
      rw [dif_pos h, if_pos (by simpa using h), if_pos h2, if_pos h2, if_neg (by simp), w64_id (by omega) (by omega)]; rfl
    · rw [dif_neg h, if_neg (by simpa using h)]) a.length k 0 (by simp) hk
  have hn : ∀ (l : List Int) (i : Nat), firstS (fun _ _ => (none : Option Bool)) i l = none := by
    intro l
    induction l with
    | nil => intro i; rfl
    | cons x r ih => intro i; exact ih (i + 1)
  unfold ref01_Same
  rw [if_neg (by simp)]
  simp only [hn, fin, List.drop_zero] at this
  have h0 : ref01_Same.l0 k 0 a a = some (.inr ()) := this
  rw [h0]; rfl
/-! ### reading colours -/
structure RS where
  q : Int
  a : Int
  c : List Int
  h : Nat
def stepI (Y : Int) (x : Int) (i : Nat) (s : RS) : RS := if x < Y then s else ⟨Int.tdiv (x - Y) Y, i, s.c.set i (Int.tmod (x - Y) Y), s.h + 1⟩
def stepR (S Y : Int) (x : Int) (i : Nat) (s : RS) : RS := if Y ≤ x ∧ x < Y + S * Y then ⟨Int.tdiv (x - Y) Y, i, s.c ++ [Int.tmod x Y], s.h + 1⟩ else ⟨s.q, s.a, s.c ++ [x], s.h⟩
def runI (Y : Int) (l : List Int) : Nat → RS
  | 0 => ⟨0, 0, l, 0⟩
  | i + 1 => stepI Y (l.getD i 0) i (runI Y l i)
def runR (S Y : Int) (l : List Int) : Nat → RS
  | 0 => ⟨0, 0, [], 0⟩
  | i + 1 => stepR S Y (l.getD i 0) i (runR S Y l i)
theorem runI_len (Y : Int) (l : List Int) : ∀ i, (runI Y l i).c.length = l.length ∧ (runI Y l i).h ≤ i
  | 0 => ⟨rfl, Nat.le_refl _⟩
  | i + 1 => by
    have := runI_len Y l i
    rw [runI, stepI]
    split
    · exact ⟨this.1, by omega⟩
    · exact ⟨by simp [this.1], by simp; omega⟩
theorem runR_len (S Y : Int) (l : List Int) : ∀ i, (runR S Y l i).c.length = i ∧ (runR S Y l i).h ≤ i
  | 0 => ⟨rfl, Nat.le_refl _⟩
  | i + 1 => by
    have := runR_len S Y l i
    rw [runR, stepR]
    split
    · exact ⟨by simp [this.1], by simp; omega⟩
    · exact ⟨by simp [this.1], by simp; omega⟩
theorem tdiv_in {x Y : Int} (hY : 0 < Y) (hx : Y ≤ x) (hm : x ≤ 9223372036854775807) : w64 (Int.tdiv (w64 (x - Y)) Y) = Int.tdiv (x - Y) Y := by
  have h0 : 0 ≤ x - Y := by omega
  rw [w64_id (n := x - Y) (by omega) (by omega)]
  have h1 := Int.tdiv_nonneg h0 (Int.le_of_lt hY)
  have h2 := Int.tdiv_le_self Y h0
  exact w64_id (by omega) (by omega)
theorem getD_ok {l : List Int} (ho : ∀ x ∈ l, ok64 x) (i : Nat) : ok64 (l.getD i 0) := by
  by_cases h : i < l.length
  · rw [show l.getD i 0 = l[i] from by simp [List.getElem?_eq_getElem h]]; exact ho _ (List.getElem_mem h)
  · rw [show l.getD i 0 = 0 from by simp [List.getElem?_eq_none (Nat.le_of_not_lt h)]]; exact ⟨by decide, by decide⟩
end Gp
set_option linter.unusedVariables false
set_option linter.unusedSimpArgs false
namespace Gp
open Gw Gq
theorem tmod_sub {x Y : Int} (hY : 0 < Y) (hx : Y ≤ x) : Int.tmod (x - Y) Y = Int.tmod x Y := by
  rw [Int.tmod_eq_emod_of_nonneg (by omega), Int.tmod_eq_emod_of_nonneg (by omega)]
  exact Int.sub_emod_right x Y
theorem good_same {S Y : Int} (hY : 0 < Y) {l : List Int} (hg : ∀ x ∈ l, x < Y + S * Y) : ∀ i, i ≤ l.length →
    (runI Y l i).q = (runR S Y l i).q ∧ (runI Y l i).a = (runR S Y l i).a ∧ (runI Y l i).h = (runR S Y l i).h ∧ (runI Y l i).c = (runR S Y l i).c ++ l.drop i
  | 0, _ => ⟨rfl, rfl, rfl, rfl⟩
  | i + 1, hi => by
    obtain ⟨h1, h2, h3, h4⟩ := good_same hY hg i (by omega)
    have hlen := runR_len S Y l i
    have hlt : i < l.length := by omega
    have hx : l.getD i 0 = l[i] := by simp [List.getElem?_eq_getElem hlt]
    have hxg : l[i] < Y + S * Y := hg _ (List.getElem_mem hlt)
    have hdrop : l.drop i = l[i] :: l.drop (i + 1) := List.drop_eq_getElem_cons hlt
    rw [runI, runR, stepI, stepR, hx]
    by_cases hc : l[i] < Y
    · rw [if_pos hc, if_neg (by omega)]
      exact ⟨h1, h2, h3, by rw [h4, hdrop]; simp⟩
    · rw [if_neg hc, if_pos ⟨by omega, hxg⟩]
      refine ⟨rfl, rfl, by simp only [h3], ?_⟩
      simp only
      rw [h4, tmod_sub hY (by omega), List.set_append_right _ _ (by omega), hlen.1, Nat.sub_self, hdrop, List.set_cons_zero, List.append_assoc, List.singleton_append]
theorem bad_I {S Y : Int} (hY : 0 < Y) (hS : 0 ≤ S) {l : List Int} : ∀ i, i ≤ l.length → (∃ j, j < i ∧ Y + S * Y ≤ l.getD j 0) → 1 ≤ (runI Y l i).h ∧ ((runI Y l i).h = 1 → S ≤ (runI Y l i).q) := by
  intro i
  induction i with
  | zero => rintro _ ⟨j, hj, _⟩; omega
  | succ i ih =>
    rintro hi ⟨j, hj, hb⟩
    rw [runI, stepI]
    by_cases hji : j < i
    · obtain ⟨h1, h2⟩ := ih (by omega) ⟨j, hji, hb⟩
      split
      · exact ⟨h1, h2⟩
      · exact ⟨by simp, fun h => by simp at h; omega⟩
    · have : j = i := by omega
      subst this
      have hSY : 0 ≤ S * Y := Int.mul_nonneg hS (Int.le_of_lt hY)
      rw [if_neg (by omega)]
      refine ⟨by simp, fun _ => ?_⟩
      show S ≤ Int.tdiv (l.getD j 0 - Y) Y
      rw [Int.tdiv_eq_ediv_of_nonneg (by omega)]
      exact (Int.le_ediv_iff_mul_le hY).2 (by omega)
theorem bad_R {S Y : Int} {l : List Int} : ∀ i, i ≤ l.length → (runR S Y l i).c.length = i ∧ ∀ j, j < i → ¬ (Y ≤ l.getD j 0 ∧ l.getD j 0 < Y + S * Y) → l.getD j 0 ∈ (runR S Y l i).c := by
  intro i
  induction i with
  | zero => exact fun _ => ⟨rfl, fun j hj => by omega⟩
  | succ i ih =>
    intro hi
    obtain ⟨h1, h2⟩ := ih (by omega)
    refine ⟨(runR_len S Y l (i + 1)).1, fun j hj hb => ?_⟩
    rw [runR, stepR]
    by_cases hji : j < i
    · have := h2 j hji hb
      split <;> exact List.mem_append_left _ this
    · have : j = i := by omega
      subst this
      rw [if_neg hb]; exact List.mem_append_right _ (List.mem_singleton.2 rfl)
/-! the two readings -/
end Gp
set_option linter.unusedVariables false
set_option linter.unusedSimpArgs false
namespace Gp
open Gw Gq
end Gp
set_option linter.unusedVariables false
set_option linter.unusedSimpArgs false
namespace Gp
open Gw Gq
/-! ### pictures -/
end Gp
set_option linter.unusedVariables false
set_option linter.unusedSimpArgs false
namespace Gp
open Gw Gq
def zP : Pattern := ⟨0, 0, []⟩
def endP (acc : List Int) : Option (List Int) → Sum (Pattern × Int) (List Int)
  | some r => .inr (acc ++ r)
  | none => .inl (zP, 6)
def picR (n : Int) (w : Int) : Option (List Int) → Pattern × Int
  | some r => (⟨w, n, r⟩, 0)
  | none => (zP, 6)
end Gp
set_option linter.unusedVariables false
set_option linter.unusedSimpArgs false
namespace Gp
open Gw Gq
/-! cutting off the first row -/
theorem cut_loop {r0 rest : List Int} {W h : Nat} (hr0 : r0.length = W) (hrest : rest.length = h * W) (hW : 1 ≤ W ∧ W ≤ 40000) (hh : h ≤ 40000) (hm : (h + 1) * W ≤ 40000) {k : Nat} (hk : h < k) :
    tile_Cut.l0 k [] 0 ⟨W, ((h + 1 : Nat) : Int), r0 ++ rest⟩ 0 1 W h = some rest := by
  have hWW : ∀ i, i < h → i * W + W ≤ h * W := fun i hi => by rw [← Nat.succ_mul]; exact Nat.mul_le_mul_right _ hi
  rw [Nat.succ_mul] at hm
  have := loop_to (F := fun k i l => tile_Cut.l0 k l i ⟨W, ((h + 1 : Nat) : Int), r0 ++ rest⟩ 0 1 W h) (S := fun i => rest.take (i * W)) (n := h) (K := 0) (r := rest) (fun k i _ hi => by
    have hi2 := hWW i hi
    show tile_Cut.l0 (k + 1) (rest.take (i * W)) i ⟨W, ((h + 1 : Nat) : Int), r0 ++ rest⟩ 0 1 W h = _
    have e1 : w64 (w64 (w64 (1 + (i : Int)) * (W : Int)) + 0) = ((W + i * W : Nat) : Int) := by
      rw [w64_id (n := 1 + (i : Int)) (by omega) (by omega)]
      have e : (1 + (i : Int)) * (W : Int) = ((W + i * W : Nat) : Int) := by push_cast; rw [Int.add_mul, Int.one_mul]
      rw [e, w64_id (n := ((W + i * W : Nat) : Int)) (by omega) (by omega), Int.add_zero, w64_id (by omega) (by omega)]
    have e2 : w64 (((W + i * W : Nat) : Int) + (W : Int)) = ((W + i * W + W : Nat) : Int) := by rw [w64_id (by omega) (by omega)]; push_cast; rfl
    rw [tile_Cut.l0, if_pos (by simpa using hi)]
    simp only
    rw [e1, e2, if_pos ⟨by omega, by omega, by rw [List.length_append]; omega⟩]
    have e3 : cut (r0 ++ rest) ((W + i * W : Nat) : Int) ((W + i * W + W : Nat) : Int) = (rest.drop (i * W)).take W := by
      unfold cut
      rw [Int.toNat_natCast, Int.toNat_natCast, List.drop_append, hr0, show W + i * W - W = i * W from by omega, List.drop_eq_nil_of_le (by omega), List.nil_append, show W + i * W + W - (W + i * W) = W from by omega]
    rw [e3, if_pos (by rw [List.length_take, List.length_take, List.length_drop]; omega), w64_id (by omega) (by omega)]
    have e4 : rest.take ((i + 1) * W) = rest.take (i * W) ++ (rest.drop (i * W)).take W := by rw [Nat.succ_mul, List.take_add]
    rw [e4]; rfl) (fun k => by
    show tile_Cut.l0 (k + 1) (rest.take (h * W)) h ⟨W, ((h + 1 : Nat) : Int), r0 ++ rest⟩ 0 1 W h = _
    rw [tile_Cut.l0, if_neg (by simp), ← hrest, List.take_length]) k (by omega)
  simpa using this
theorem cut_eq {r0 rest : List Int} {W h : Nat} (hr0 : r0.length = W) (hrest : rest.length = h * W) (hW : 1 ≤ W ∧ W ≤ 40000) (hh : 1 ≤ h ∧ h ≤ 39999) (hm : (h + 1) * W ≤ 40000) {k : Nat} (hk : h < k) :
    tile_Cut k ⟨W, ((h + 1 : Nat) : Int), r0 ++ rest⟩ 0 1 W h = some (⟨W, h, rest⟩, 0) := by
  rw [Nat.succ_mul] at hm
  have hmm : (W : Int) * ((h + 1 : Nat) : Int) = ((h * W + W : Nat) : Int) := by push_cast; rw [Int.mul_comm, Int.add_mul, Int.one_mul]
  have hlen : ((r0 ++ rest).length : Int) = ((h * W + W : Nat) : Int) := by rw [List.length_append, hr0, hrest]; push_cast; omega
  unfold tile_Cut tile_Form
  simp only
  rw [hmm, w64_id (n := ((h * W + W : Nat) : Int)) (by omega) (by omega), hlen, Option.bind_some, if_neg (by simp; omega)]
  rw [w64_id (n := (W : Int) - W) (by omega) (by omega), w64_id (n := ((h + 1 : Nat) : Int) - h) (by omega) (by omega), if_neg (by simp; omega)]
  rw [cut_loop hr0 hrest hW (by omega) (by rw [Nat.succ_mul]; exact hm) hk]; rfl
theorem samepat_refl (p : Pattern) (hl : p.Cells.length ≤ 1000000) {k : Nat} (hk : p.Cells.length < k) : ref01_SamePattern k p p = some true := by
  unfold ref01_SamePattern
  rw [if_pos (by simp), same_list _ hl _ hk]; rfl
end Gp
set_option linter.unusedVariables false
set_option linter.unusedSimpArgs false
namespace Gq
theorem flat_at {α : Type} {f : Nat → List α} : ∀ {n i : Nat} {t : α}, ((List.range n).flatMap f)[i]? = some t → ∃ q j, q < n ∧ (f q)[j]? = some t ∧ i = ((List.range q).flatMap f).length + j
  | 0, i, t, h => by simp at h
  | n + 1, i, t, h => by
    rw [flat_succ, List.getElem?_append] at h
    split at h
    · obtain ⟨q, j, hq, hj, hi⟩ := flat_at h
      exact ⟨q, j, by omega, hj, hi⟩
    · exact ⟨n, _, by omega, h, by omega⟩
theorem flat_get {α : Type} {f : Nat → List α} : ∀ {n q j : Nat} {t : α}, q < n → (f q)[j]? = some t → ((List.range n).flatMap f)[((List.range q).flatMap f).length + j]? = some t
  | 0, q, j, t, h, _ => by omega
  | n + 1, q, j, t, h, hj => by
    rw [flat_succ, List.getElem?_append]
    by_cases hq : q < n
    · have := flat_get (n := n) hq hj
      rw [if_pos (by by_cases hl : ((List.range q).flatMap f).length + j < ((List.range n).flatMap f).length
                     · exact hl
                     · rw [List.getElem?_eq_none (by omega)] at this; cases this)]
      exact this
    · have : q = n := by omega
      subst this
      rw [if_neg (by omega), show ((List.range q).flatMap f).length + j - ((List.range q).flatMap f).length = j by omega]; exact hj
theorem flat_len {α : Type} {f : Nat → List α} {b : Nat} (hf : ∀ i, (f i).length = b) : ∀ n, ((List.range n).flatMap f).length = n * b
  | 0 => by simp
  | n + 1 => by
    rw [flat_succ, List.length_append, Nat.add_mul, Nat.one_mul, flat_len hf n, hf n]
end Gq
namespace Gp
open Gw Gq
/-! ### where the tiles of a machine lie -/
theorem hd_ge (Y q s : Nat) : (Y : Int) ≤ hd Y q s := by unfold hd; omega
theorem hd_inj {Y q s q' s' : Nat} (h : hd Y q s = hd Y q' s') : q * Y + s = q' * Y + s' := by unfold hd at h; omega
theorem sym_at {Y n i : Nat} {t : Tile} (h : (symL Y n)[i]? = some t) : i < n ∧ t = symT i := by
  unfold symL at h
  rw [List.getElem?_map] at h
  by_cases hi : i < n
  · rw [List.getElem?_range hi] at h; injection h with h; exact ⟨hi, h.symm⟩
  · rw [List.getElem?_eq_none (by simpa using hi)] at h; cases h
theorem sym_len (Y n : Nat) : (symL Y n).length = n := by simp [symL]
theorem arr_length (S Y q n : Nat) : ((List.range n).flatMap (arrL S Y q)).length = n * 2 := flat_len (f := arrL S Y q) (b := 2) (fun i => rfl) n
theorem arrs_length (S Y n : Nat) : ((List.range n).flatMap fun q => (List.range Y).flatMap (arrL S Y q)).length = n * (Y * 2) := flat_len (f := fun q => (List.range Y).flatMap (arrL S Y q)) (b := Y * 2) (fun q => arr_length S Y q Y) n
end Gp
set_option linter.unusedVariables false
set_option linter.unusedSimpArgs false
namespace Gp
open Gw Gq
/-! ### the tile that shows a cell of a step -/
theorem getD_set (l : List Int) (i : Nat) (v d : Int) (x : Nat) : (l.set i v).getD x d = if x = i ∧ x < l.length then v else l.getD x d := by
  rw [List.getD_eq_getElem?_getD, List.getD_eq_getElem?_getD, List.getElem?_set]
  by_cases h : i = x
  · subst h
    by_cases hl : i < l.length
    · simp [hl]
    · simp [hl]
  · rw [if_neg h, if_neg (by omega)]
theorem hd_div {Y : Nat} (n : Nat) : hd Y (n / Y) (n % Y) = ((Y + n : Nat) : Int) := by
  unfold hd
  rw [Nat.add_assoc, Nat.mul_comm (n / Y) Y, Nat.div_add_mod]
theorem Tile.ext' {a b : Tile} (h1 : a.N = b.N) (h2 : a.E = b.E) (h3 : a.S = b.S) (h4 : a.W = b.W) : a = b := by
  cases a; cases b; simp only at h1 h2 h3 h4; subst h1 h2 h3 h4; rfl
theorem bind_eq {α β : Type} {o : Option α} {b : α} {f : α → Option β} {r : Option β} (h : o = some b) (h2 : f b = r) : o.bind f = r := by rw [h]; exact h2
end Gp
set_option linter.unusedVariables false
set_option linter.unusedSimpArgs false
namespace Gp
open Gw Gq
def endR (acc : List Int) : Option (List Int) → Sum (Pattern × Bool) (List Int)
  | some r => .inr (acc ++ r)
  | none => .inl (zP, false)
def picQ (n : Int) (w : Int) : Option (List Int) → Pattern × Bool
  | some r => (⟨w, n, r⟩, true)
  | none => (zP, false)
end Gp
set_option linter.unusedVariables false
set_option linter.unusedSimpArgs false
namespace Gq
theorem loop_all {σ ρ τ : Type} {F : Nat → Int → σ → Option (Sum ρ τ)} {S : Nat → σ} {b : Nat → Bool} {n K : Nat} {r : ρ} {e : τ} (hs : ∀ k i, K ≤ k → i < n → F (k + 1) (i : Int) (S i) = if b i = true then F k ((i + 1 : Nat) : Int) (S (i + 1)) else some (.inl r)) (he : ∀ k, F (k + 1) (n : Int) (S n) = some (.inr e)) :
    ∀ k, n + K < k → F k 0 (S 0) = some (if (List.range n).all b = true then .inr e else .inl r) := by
  have key : ∀ d i k, i + d = n → d + K < k → F k (i : Int) (S i) = some (if (List.range' i d).all b = true then .inr e else .inl r) := by
    intro d
    induction d with
    | zero =>
      intro i k hi hk
      obtain ⟨k, rfl⟩ : ∃ m, k = m + 1 := ⟨k - 1, by omega⟩
      have : i = n := by omega
      subst this; rw [he]; rfl
    | succ d ih =>
      intro i k hi hk
      obtain ⟨k, rfl⟩ : ∃ m, k = m + 1 := ⟨k - 1, by omega⟩
      rw [hs k i (by omega) (by omega), List.range'_succ, List.all_cons]
      cases hb : b i
      · rfl
      · rw [if_pos rfl, ih (i + 1) k (by omega) (by omega)]; rfl
  intro k hk
  rw [List.range_eq_range']
  exact key n 0 k (by omega) hk
theorem firstS_ge' {α : Type} {p : α → Bool} : ∀ (xs : List α) (i : Nat), (match firstS (fun i a => if p a = true then none else some (i : Int)) i xs with
    | some x => decide (0 ≤ x)
    | none => false) = !xs.all p
  | [], i => rfl
  | a :: r, i => by
    rw [firstS]
    cases h : p a
    · simp [h]
    · simp only [if_true, List.all_cons, h, Bool.true_and]
      exact firstS_ge' r (i + 1)
end Gq
namespace Gp
open Gw Gq
/-! ### sets of tiles and patterns -/
def inCol (c : Int) : Bool := decide (0 ≤ c ∧ c < 1000)
def colB (t : Tile) : Bool := inCol t.N && inCol t.E && inCol t.S && inCol t.W
theorem idx_col (xs : List Int) (hl : xs.length ≤ 1000000) (k : Nat) (hk : xs.length < k) :
    slices_IndexFunc_int_int_with_tile_colour_1.l0 k 0 xs = some (fin (firstS (fun i a => if inCol a = true then none else some (i : Int)) 0 xs)) := by
  have := scan (F := fun k i => slices_IndexFunc_int_int_with_tile_colour_1.l0 k i xs) (xs := xs) (g := fun i a => if inCol a = true then none else some (i : Int)) (fun k i hi => by
    show slices_IndexFunc_int_int_with_tile_colour_1.l0 (k + 1) i xs = _
    rw [slices_IndexFunc_int_int_with_tile_colour_1.l0]
    by_cases h : i < xs.length
    · have h' : (i : Int) < (xs.length : Int) := by omega
      have h2 : 0 ≤ (i : Int) ∧ (i : Int) < (xs.length : Int) := by omega
      rw [dif_pos h, if_pos (by simpa using h'), if_pos h2, rdD_get h, tile_colour_1, w64_id (by omega) (by omega)]
      by_cases hb : 0 ≤ xs[i] ∧ xs[i] < 1000
      · have h3 : ¬ (xs[i] < 0 ∨ 1000 ≤ xs[i]) := by omega
        simp [inCol, hb]
        intro hh; exact absurd hh h3
      · have h3 : (xs[i] < 0 ∨ 1000 ≤ xs[i]) := by omega
        simp [inCol, hb, h3]
    · have h' : ¬ (i : Int) < (xs.length : Int) := by omega
      rw [dif_neg h, if_neg (by simpa using h')]) xs.length k 0 (by simp) hk
  simpa using this
theorem colour_eq (xs : List Int) (hl : xs.length ≤ 1000000) (k : Nat) (hk : xs.length < k) : tile_colour k xs = some (xs.all inCol) := by
  unfold tile_colour slices_ContainsFunc_int_int_with_tile_colour_1 slices_IndexFunc_int_int_with_tile_colour_1
  rw [idx_col xs hl k hk]
  have := firstS_ge' (p := inCol) xs 0
  cases hf : firstS (fun i a => if inCol a = true then none else some (i : Int)) 0 xs <;> rw [hf] at this <;> cases ha : xs.all inCol <;> rw [ha] at this <;> simp [fin, sumb] at this ⊢
  · exact this
  · exact this
def metS (set : List Tile) (i : Nat) : List (Tile × Bool) := (set.take i).map fun t => (t, true)
theorem mget_met (t : Tile) : ∀ l : List Tile, mget t false (l.map fun t => (t, true)) = decide (t ∈ l)
  | [] => rfl
  | a :: r => by
    simp only [List.map_cons, mget]
    by_cases h : t = a
    · simp [h]
    · rw [if_neg h, mget_met t r]; simp [h]
theorem mput_met (t : Tile) : ∀ l : List Tile, t ∉ l → mput t true (l.map fun t => (t, true)) = (l.map fun t => (t, true)) ++ [(t, true)]
  | [], _ => rfl
  | a :: r, h => by
    simp only [List.mem_cons, not_or] at h
    simp only [List.map_cons, mput, if_neg h.1, mput_met t r h.2, List.cons_append]
def newB (set : List Tile) (i : Nat) : Bool := !decide (set.getD i z_Tile ∈ set.take i) && colB (set.getD i z_Tile)
def validT (set : List Tile) : Bool := decide (set.length ≤ 1000) && (List.range set.length).all (newB set)
theorem tile_valid (set : List Tile) {k : Nat} (hk : 1006 ≤ k) (hl : set.length ≤ 9223372036854775807) : tile_Valid k set = some (validT set) := by
  unfold tile_Valid validT
  by_cases hb : set.length ≤ 1000
  · rw [if_neg (by simp; omega)]
    have := loop_all (F := fun k i (m : List (Tile × Bool)) => tile_Valid.l0 k m i set) (S := metS set) (b := newB set) (n := set.length) (K := 5) (r := false) (e := ()) (fun k i hk hi => by
      show tile_Valid.l0 (k + 1) (metS set i) i set = if newB set i = true then tile_Valid.l0 k (metS set (i + 1)) ((i + 1 : Nat) : Int) set else _
      rw [tile_Valid.l0, if_pos (by simpa using hi), if_pos (by omega), rdD_nat, metS, mget_met]
      have ht : set.getD i z_Tile = set[i] := by simp [List.getElem?_eq_getElem hi]
      unfold newB
      by_cases hm : set.getD i z_Tile ∈ set.take i
      · rw [if_pos (by simpa using hm), show decide (set.getD i z_Tile ∈ set.take i) = true from decide_eq_true hm]; rfl
      · rw [if_neg (by simpa using hm), colour_eq _ (by simp) k (by simp; omega), Option.bind_some, Option.bind_some]
        have hc : ([(set.getD i z_Tile).N, (set.getD i z_Tile).E, (set.getD i z_Tile).S, (set.getD i z_Tile).W].all inCol) = colB (set.getD i z_Tile) := by simp [colB, Bool.and_assoc]
        rw [hc]
        cases hcb : colB (set.getD i z_Tile)
        · simp
        · rw [mput_met _ _ hm, w64_id (by omega) (by omega)]
          simp only [hm, Bool.not_true, Bool.false_eq_true, if_false, decide_false, Bool.not_false, Bool.and_self, if_true]
          unfold metS
          rw [List.take_add_one, List.map_append, List.getElem?_eq_getElem hi, ht]; rfl) (fun k => by
      show tile_Valid.l0 (k + 1) (metS set set.length) set.length set = _
      rw [tile_Valid.l0, if_neg (by simp)]) k (by omega)
    have h0 : tile_Valid.l0 k [] 0 set = some (if (List.range set.length).all (newB set) = true then .inr () else .inl false) := this
    rw [h0]
    cases (List.range set.length).all (newB set) <;> simp [sumb, hb]
  · rw [if_pos (by simp; omega)]; simp [hb]
def formB (p : Pattern) : Bool := decide (1 ≤ p.Width ∧ 1 ≤ p.Height ∧ p.Width ≤ 40000 ∧ p.Height ≤ 40000 ∧ p.Width * p.Height ≤ 40000 ∧ (p.Cells.length : Int) = p.Width * p.Height)
theorem form_eq (p : Pattern) : tile_Form p = some (formB p) := by
  unfold tile_Form formB
  by_cases h : 1 ≤ p.Width ∧ 1 ≤ p.Height ∧ p.Width ≤ 40000 ∧ p.Height ≤ 40000
  · have h0 : 0 ≤ p.Width * p.Height := Int.mul_nonneg (by omega) (by omega)
    have h1 : p.Width * p.Height ≤ 40000 * 40000 := Int.mul_le_mul (by omega) (by omega) (by omega) (by omega)
    rw [w64_id (n := p.Width * p.Height) (by omega) (by omega)]
    simp [h]; rfl
  · congr 1
    have : ((((decide (p.Width ≥ 1)) && (decide (p.Height ≥ 1))) && (decide (p.Width ≤ 40000))) && (decide (p.Height ≤ 40000))) = false := by
      cases he : ((((decide (p.Width ≥ 1)) && (decide (p.Height ≥ 1))) && (decide (p.Width ≤ 40000))) && (decide (p.Height ≤ 40000)))
      · rfl
      · simp only [Bool.and_eq_true, decide_eq_true_eq] at he
        exact absurd ⟨he.1.1.1, he.1.1.2, he.1.2, he.2⟩ h
    rw [this]; simp only [Bool.false_and]
    exact (decide_eq_false (fun h' => h ⟨h'.1, h'.2.1, h'.2.2.1, h'.2.2.2.1⟩)).symm
def inSet (n : Nat) (c : Int) : Bool := decide (0 ≤ c ∧ c < (n : Int))
theorem idx_of (set : List Tile) (xs : List Int) (hl : xs.length ≤ 1000000) (k : Nat) (hk : xs.length < k) :
    slices_IndexFunc_int_int_with_tile_of_1.l0 k 0 xs set = some (fin (firstS (fun i a => if inSet set.length a = true then none else some (i : Int)) 0 xs)) := by
  have := scan (F := fun k i => slices_IndexFunc_int_int_with_tile_of_1.l0 k i xs set) (xs := xs) (g := fun i a => if inSet set.length a = true then none else some (i : Int)) (fun k i hi => by
    show slices_IndexFunc_int_int_with_tile_of_1.l0 (k + 1) i xs set = _
    rw [slices_IndexFunc_int_int_with_tile_of_1.l0]
    by_cases h : i < xs.length
    · have h' : (i : Int) < (xs.length : Int) := by omega
      have h2 : 0 ≤ (i : Int) ∧ (i : Int) < (xs.length : Int) := by omega
      rw [dif_pos h, if_pos (by simpa using h'), if_pos h2, rdD_get h, tile_of_1, w64_id (by omega) (by omega)]
      by_cases hb : 0 ≤ xs[i] ∧ xs[i] < (set.length : Int)
      · have h3 : ¬ (xs[i] < 0 ∨ (set.length : Int) ≤ xs[i]) := by omega
        simp [inSet, hb]
        intro hh; exact absurd hh h3
      · have h3 : (xs[i] < 0 ∨ (set.length : Int) ≤ xs[i]) := by omega
        simp [inSet, hb, h3]
    · have h' : ¬ (i : Int) < (xs.length : Int) := by omega
      rw [dif_neg h, if_neg (by simpa using h')]) xs.length k 0 (by simp) hk
  simpa using this
theorem contains_of (set : List Tile) (xs : List Int) (hl : xs.length ≤ 1000000) (k : Nat) (hk : xs.length < k) : slices_ContainsFunc_int_int_with_tile_of_1 k xs set = some (!xs.all (inSet set.length)) := by
  unfold slices_ContainsFunc_int_int_with_tile_of_1 slices_IndexFunc_int_int_with_tile_of_1
  rw [idx_of set xs hl k hk]
  have := firstS_ge' (p := inSet set.length) xs 0
  cases hf : firstS (fun i a => if inSet set.length a = true then none else some (i : Int)) 0 xs <;> rw [hf] at this <;> cases ha : xs.all (inSet set.length) <;> rw [ha] at this <;> simp [fin, sumb] at this ⊢
  · exact this
  · exact this
def ofB (set : List Tile) (p : Pattern) : Bool := validT set && formB p && p.Cells.all (inSet set.length)
theorem formB_len {p : Pattern} (h : formB p = true) : p.Cells.length ≤ 40000 := by
  unfold formB at h
  simp only [decide_eq_true_eq] at h
  omega
theorem of_eq (set : List Tile) (p : Pattern) {k : Nat} (hk : 40001 ≤ k) (hl : set.length ≤ 9223372036854775807) : tile_of k set p = some (ofB set p) := by
  unfold tile_of ofB
  rw [tile_valid set (by omega) hl, Option.bind_some, form_eq]
  cases hv : validT set
  · rfl
  · rw [if_pos rfl]
    cases hf : formB p
    · rfl
    · have := formB_len hf
      rw [Option.bind_some, Option.bind_some, if_pos rfl, contains_of set p.Cells (by omega) k (by omega)]
      simp
def tl (set : List Tile) (p : Pattern) (j : Nat) : Tile := set.getD (p.Cells.getD j 0).toNat z_Tile
def rightB (set : List Tile) (p : Pattern) (W H : Nat) (round : Bool) (i : Nat) : Bool := !(decide (i % W + 1 < W) || round) || (tl set p i).E == (tl set p (i / W * W + (i % W + 1) % W)).W
def upB (set : List Tile) (p : Pattern) (W H : Nat) (round : Bool) (i : Nat) : Bool := !(decide (i / W + 1 < H) || round) || (tl set p i).N == (tl set p ((i / W + 1) % H * W + i % W)).S
structure PForm (set : List Tile) (p : Pattern) (W H : Nat) : Prop where
  w : p.Width = W
  h : p.Height = H
  dW : 1 ≤ W ∧ W ≤ 40000
  dH : 1 ≤ H ∧ H ≤ 40000
  wh : H * W ≤ 40000
  len : p.Cells.length = H * W
  cel : ∀ j, j < H * W → 0 ≤ p.Cells.getD j 0 ∧ p.Cells.getD j 0 < (set.length : Int)
theorem ofB_iff {set : List Tile} {p : Pattern} (h : ofB set p = true) : validT set = true ∧ ∃ W H, PForm set p W H := by
  unfold ofB at h
  simp only [Bool.and_eq_true, List.all_eq_true] at h
  obtain ⟨⟨h1, h2⟩, h3⟩ := h
  refine ⟨h1, p.Width.toNat, p.Height.toNat, ?_⟩
  unfold formB at h2
  simp only [decide_eq_true_eq] at h2
  obtain ⟨a1, a2, a3, a4, a5, a6⟩ := h2
  have e : ((p.Height.toNat * p.Width.toNat : Nat) : Int) = p.Width * p.Height := by rw [Int.natCast_mul, Int.toNat_of_nonneg (by omega), Int.toNat_of_nonneg (by omega), Int.mul_comm]
  refine ⟨by omega, by omega, by omega, by omega, by omega, by omega, fun j hj => ?_⟩
  have hj2 : j < p.Cells.length := by omega
  have := h3 (p.Cells.getD j 0) (by rw [show p.Cells.getD j 0 = p.Cells[j] from by simp [List.getElem?_eq_getElem hj2]]; exact List.getElem_mem _)
  simpa [inSet] using this
theorem PForm.tl {set : List Tile} {p : Pattern} {W H : Nat} (f : PForm set p W H) {j : Nat} (hj : j < H * W) : rdD set (p.Cells.getD j 0) z_Tile = Gp.tl set p j ∧ (0 ≤ p.Cells.getD j 0 ∧ p.Cells.getD j 0 < (set.length : Int)) := ⟨rfl, f.cel j hj⟩
theorem place_lt {W H x y : Nat} (hx : x < W) (hy : y < H) : y * W + x < H * W := by
  have := Nat.mul_le_mul_right W (show y + 1 ≤ H by omega)
  rw [Nat.succ_mul] at this; omega
theorem joins_eq {set : List Tile} {p : Pattern} {W H : Nat} (f : PForm set p W H) (round : Bool) {k : Nat} (hk : 40001 ≤ k) : tile_joins k set p round = some ((List.range (H * W)).all fun i => rightB set p W H round i && upB set p W H round i) := by
  have hwh := f.wh
  have hdW := f.dW
  have hdH := f.dH
  unfold tile_joins
  have := loop_all (F := fun k i (_ : Unit) => tile_joins.l0 k i set p round) (S := fun _ => ()) (b := fun i => rightB set p W H round i && upB set p W H round i) (n := H * W) (K := 0) (r := false) (e := ()) (fun k i _ hi => by
    show tile_joins.l0 (k + 1) i set p round = if (rightB set p W H round i && upB set p W H round i) = true then tile_joins.l0 k ((i + 1 : Nat) : Int) set p round else _
    obtain ⟨y, hyd⟩ : ∃ y, i / W = y := ⟨_, rfl⟩
    obtain ⟨x, hxd⟩ : ∃ x, i % W = x := ⟨_, rfl⟩
    obtain ⟨x2, hx2d⟩ : ∃ x2, (x + 1) % W = x2 := ⟨_, rfl⟩
    obtain ⟨y2, hy2d⟩ : ∃ y2, (y + 1) % H = y2 := ⟨_, rfl⟩
    have hx : x < W := hxd ▸ Nat.mod_lt _ (by omega)
    have hy : y < H := hyd ▸ Nat.div_lt_of_lt_mul (by rw [Nat.mul_comm]; exact hi)
    have hx2 : x2 < W := hx2d ▸ Nat.mod_lt _ (by omega)
    have hy2 : y2 < H := hy2d ▸ Nat.mod_lt _ (by omega)
    have hr := place_lt hx2 hy
    have hu := place_lt hx hy2
    have e1 : Int.tmod (i : Int) (W : Int) = (x : Int) := by rw [← hxd]; rfl
    have e2 : Int.tdiv (i : Int) (W : Int) = (y : Int) := by rw [← hyd]; rfl
    have e3 : w64 ((x : Int) + 1) = ((x + 1 : Nat) : Int) := by rw [w64_id (by omega) (by omega)]; rfl
    have e4 : w64 (y : Int) = (y : Int) := w64_id (by omega) (by omega)
    have e5 : w64 ((y : Int) + 1) = ((y + 1 : Nat) : Int) := by rw [w64_id (by omega) (by omega)]; rfl
    have e6 : Int.tmod ((x + 1 : Nat) : Int) (W : Int) = (x2 : Int) := by rw [← hx2d]; rfl
    have e7 : Int.tmod ((y + 1 : Nat) : Int) (H : Int) = (y2 : Int) := by rw [← hy2d]; rfl
    have e8 : w64 (w64 ((y : Int) * (W : Int)) + (x2 : Int)) = ((y * W + x2 : Nat) : Int) := by
      rw [← Int.natCast_mul, w64_id (n := ((y * W : Nat) : Int)) (by omega) (by omega), w64_id (by omega) (by omega)]; rfl
    have e9 : w64 (w64 ((y2 : Int) * (W : Int)) + (x : Int)) = ((y2 * W + x : Nat) : Int) := by
      rw [← Int.natCast_mul, w64_id (n := ((y2 * W : Nat) : Int)) (by omega) (by omega), w64_id (by omega) (by omega)]; rfl
    have c0 := f.tl hi
    have c1 := f.tl hr
    have c2 := f.tl hu
    have b1 : 0 ≤ ((y * W + x2 : Nat) : Int) ∧ ((y * W + x2 : Nat) : Int) < (p.Cells.length : Int) := by rw [f.len]; omega
    have b2 : 0 ≤ ((y2 * W + x : Nat) : Int) ∧ ((y2 * W + x : Nat) : Int) < (p.Cells.length : Int) := by rw [f.len]; omega
    rw [tile_joins.l0, if_pos (decide_eq_true (by rw [f.len]; exact Int.ofNat_lt.2 hi)), if_pos (by rw [f.len]; omega), f.w, f.h, if_pos (by omega)]
    simp only [e1, e2, e3, e4, e5, e6, e7, e8, e9, rdD_nat, if_pos c0.2, if_pos c1.2, if_pos c2.2, if_pos b1, if_pos b2, c0.1, c1.1, c2.1]
    have g1 : decide (((x + 1 : Nat) : Int) < (W : Int)) = decide (x + 1 < W) := by congr 1; apply propext; omega
    have g2 : decide (((y + 1 : Nat) : Int) < (H : Int)) = decide (y + 1 < H) := by congr 1; apply propext; omega
    have g3 : (H : Int) ≠ 0 := by omega
    rw [g1, g2]
    have e10 : w64 ((i : Int) + 1) = ((i + 1 : Nat) : Int) := by rw [w64_id (by omega) (by omega)]; rfl
    simp only [if_pos g3, e10]
    unfold rightB upB
    rw [hyd, hxd, hx2d, hy2d]
    cases (decide (x + 1 < W) || round) <;> cases (decide (y + 1 < H) || round)
    · simp [sumb]
    · cases hN : ((tl set p i).N == (tl set p (y2 * W + x)).S) <;> simp [sumb, hN, bne]
    · cases hE : ((tl set p i).E == (tl set p (y * W + x2)).W) <;> simp [sumb, hE, bne]
    · cases hE : ((tl set p i).E == (tl set p (y * W + x2)).W) <;> cases hN : ((tl set p i).N == (tl set p (y2 * W + x)).S) <;> simp [sumb, hE, hN, bne]) (fun k => by
    show tile_joins.l0 (k + 1) ((H * W : Nat) : Int) set p round = _
    rw [tile_joins.l0, if_neg (by rw [f.len]; simp)]) k (by omega)
  have h0 : tile_joins.l0 k 0 set p round = some (if ((List.range (H * W)).all fun i => rightB set p W H round i && upB set p W H round i) = true then .inr () else .inl false) := this
  rw [h0]
  cases ((List.range (H * W)).all fun i => rightB set p W H round i && upB set p W H round i) <;> rfl
end Gp
set_option linter.unusedVariables false
set_option linter.unusedSimpArgs false
namespace Gp
open Gw Gq
/-! ### the pictures are patterns of the tiles -/
theorem inCol_of {c : Int} (h : 0 ≤ c ∧ c < 1000) : inCol c = true := by unfold inCol; exact decide_eq_true h
theorem PForm.of {set : List Tile} {p : Pattern} {W H : Nat} (f : PForm set p W H) (hv : validT set = true) : ofB set p = true := by
  unfold ofB formB
  have h1 := f.dW; have h2 := f.dH; have h3 := f.wh
  have e : p.Width * p.Height = ((H * W : Nat) : Int) := by rw [f.w, f.h, Int.natCast_mul, Int.mul_comm]
  rw [hv, e, f.w, f.h, f.len]
  simp only [Bool.true_and, Bool.and_eq_true, decide_eq_true_eq, List.all_eq_true]
  refine ⟨⟨by omega, by omega, by omega, by omega, by omega, trivial⟩, fun a ha => ?_⟩
  obtain ⟨j, hj, he⟩ := List.mem_iff_getElem.1 ha
  have := f.cel j (by rw [← f.len]; exact hj)
  rw [show p.Cells.getD j 0 = p.Cells[j] from by simp [List.getElem?_eq_getElem hj], he] at this
  unfold inSet; exact decide_eq_true this
theorem fits_eq {set : List Tile} {p : Pattern} {W H : Nat} (f : PForm set p W H) (hv : validT set = true) (hl : set.length ≤ 9223372036854775807) {k : Nat} (hk : 40001 ≤ k) : tile_Fits k set p = some ((List.range (H * W)).all fun i => rightB set p W H false i && upB set p W H false i) := by
  unfold tile_Fits
  rw [of_eq set p hk hl, f.of hv, Option.bind_some, if_pos rfl, joins_eq f false hk]; rfl
end Gp
set_option linter.unusedVariables false
set_option linter.unusedSimpArgs false
namespace Gp
open Gw Gq
theorem wf8 {n : Int} (h : (Go.Lit.int .u8 n).wf = true) : 0 ≤ n ∧ n ≤ 255 := by simpa [Go.Lit.wf, Go.IntKind.min, Go.IntKind.max, Go.IntKind.signed, Go.IntKind.bits] using h
end Gp
set_option linter.unusedVariables false
set_option linter.unusedSimpArgs false
namespace Gp
open Gw Gq
/-! ### whatever pattern there is, it shows the run -/
theorem runI_inv (Y : Int) (l : List Int) : ∀ i, ((runI Y l i).h = 0 → (runI Y l i).c = l) ∧ ((runI Y l i).h = 1 → ∃ x, x < i ∧ Y ≤ l.getD x 0 ∧ (runI Y l i).q = Int.tdiv (l.getD x 0 - Y) Y ∧ (runI Y l i).a = x ∧ (runI Y l i).c = l.set x (Int.tmod (l.getD x 0 - Y) Y))
  | 0 => ⟨fun _ => rfl, fun h => by simp [runI] at h⟩
  | i + 1 => by
    obtain ⟨h0, h1⟩ := runI_inv Y l i
    rw [runI, stepI]
    by_cases hc : l.getD i 0 < Y
    · rw [if_pos hc]
      refine ⟨h0, fun h => ?_⟩
      obtain ⟨x, hx, hr⟩ := h1 h
      exact ⟨x, by omega, hr⟩
    · rw [if_neg hc]
      refine ⟨fun h => by simp at h, fun h => ?_⟩
      have h : (runI Y l i).h = 0 := by simpa using h
      exact ⟨i, by omega, by omega, rfl, rfl, by simp only; rw [h0 h]⟩
end Gp
set_option linter.unusedVariables false
set_option linter.unusedSimpArgs false
namespace Gp
open Gw Gq
def southS (set : List Tile) (p : Pattern) (i : Nat) : List Int := (List.range i).map fun x => (tl set p x).S
def endB (set : List Tile) (p : Pattern) (W y : Nat) : Bool := (tl set p (y * W)).W == 0 && (tl set p (y * W + (W - 1))).E == 0
theorem southS_len (set : List Tile) (p : Pattern) (i : Nat) : (southS set p i).length = i := by simp [southS]
theorem southS_get (set : List Tile) (p : Pattern) {i x : Nat} (hx : x < i) : (southS set p i).getD x 0 = (tl set p x).S := by
  unfold southS
  rw [List.getD_eq_getElem?_getD, List.getElem?_map, List.getElem?_range hx]; rfl
end Gp
set_option linter.unusedVariables false
set_option linter.unusedSimpArgs false
namespace Gq
theorem all_mul (b : Nat → Bool) (W : Nat) : ∀ H, (List.range (H * W)).all b = (List.range H).all fun y => (List.range W).all fun x => b (y * W + x)
  | 0 => by simp
  | H + 1 => by
    rw [Nat.succ_mul, List.range_add, List.all_append, all_mul b W H, List.range_succ, List.all_append, List.all_map]
    simp [Function.comp_def]
end Gq
namespace Gp
open Gw Gq
/-! ### the patterns of the statements' own reference -/
end Gp
set_option linter.unusedVariables false
set_option linter.unusedSimpArgs false
namespace Gp
open Gw Gq
end Gp
set_option linter.unusedVariables false
set_option linter.unusedSimpArgs false
namespace Gp
open Gw Gq
/-! ### a torus, repeated -/
def repAt (p : Pattern) (W H y x : Nat) : Int := p.Cells.getD (y % H * W + x % W) 0
def repS (p : Pattern) (W H w h : Nat) : List Int := (List.range h).flatMap fun y => (List.range w).map (repAt p W H y)
theorem repS_len (p : Pattern) (W H w h : Nat) : (repS p W H w h).length = h * w := flat_len (f := fun y => (List.range w).map (repAt p W H y)) (b := w) (fun y => by simp) h
theorem repS_get (p : Pattern) (W H : Nat) {w h x y : Nat} (hx : x < w) (hy : y < h) : (repS p W H w h).getD (y * w + x) 0 = repAt p W H y x := by
  have := flat_get (f := fun y => (List.range w).map (repAt p W H y)) (n := h) (q := y) (j := x) (t := repAt p W H y x) hy (by simp [hx])
  have e : ((List.range y).flatMap fun y => (List.range w).map (repAt p W H y)).length = y * w := repS_len p W H w y
  rw [e] at this
  unfold repS
  rw [List.getD_eq_getElem?_getD, this]; rfl
theorem rep_l1 {set : List Tile} {p : Pattern} {W H : Nat} (f : PForm set p W H) {w y : Nat} (hw : w ≤ 40000) (hy : y ≤ 40000) (acc : List Int) (ha : acc.length ≤ 1000000) {k : Nat} (hk : w < k) : tile_Repeat.l1 k acc 0 p w y = some (acc ++ (List.range w).map (repAt p W H y)) := by
  have hdW := f.dW
  have hdH := f.dH
  have hwh := f.wh
  have := loop_to (F := fun k i l => tile_Repeat.l1 k l i p w y) (S := fun i => acc ++ (List.range i).map (repAt p W H y)) (n := w) (K := 0) (r := acc ++ (List.range w).map (repAt p W H y)) (fun k x _ hx => by
    show tile_Repeat.l1 (k + 1) (acc ++ (List.range x).map (repAt p W H y)) x p w y = tile_Repeat.l1 k (acc ++ (List.range (x + 1)).map (repAt p W H y)) ((x + 1 : Nat) : Int) p w y
    obtain ⟨x2, hx2d⟩ : ∃ x2, x % W = x2 := ⟨_, rfl⟩
    obtain ⟨y2, hy2d⟩ : ∃ y2, y % H = y2 := ⟨_, rfl⟩
    have hx2 : x2 < W := hx2d ▸ Nat.mod_lt _ (by omega)
    have hy2 : y2 < H := hy2d ▸ Nat.mod_lt _ (by omega)
    have hr := place_lt hx2 hy2
    have e6 : Int.tmod (x : Int) (W : Int) = (x2 : Int) := by rw [← hx2d]; rfl
    have e7 : Int.tmod (y : Int) (H : Int) = (y2 : Int) := by rw [← hy2d]; rfl
    have e8 : w64 (w64 ((y2 : Int) * (W : Int)) + (x2 : Int)) = ((y2 * W + x2 : Nat) : Int) := by
      rw [← Int.natCast_mul, w64_id (n := ((y2 * W : Nat) : Int)) (by omega) (by omega), w64_id (by omega) (by omega)]; rfl
    rw [tile_Repeat.l1, if_pos (by simpa using hx), f.w, f.h, if_pos (by omega), if_pos (by omega)]
    simp only [e6, e7, e8, rdD_nat]
    rw [if_pos (by rw [f.len]; omega), if_pos (by simp; omega), w64_id (by omega) (by omega), map_succ, List.append_assoc]
    have : p.Cells.getD (y2 * W + x2) 0 = repAt p W H y x := by unfold repAt; rw [hx2d, hy2d]
    rw [this]; rfl) (fun k => by
    show tile_Repeat.l1 (k + 1) (acc ++ (List.range w).map (repAt p W H y)) w p w y = _
    rw [tile_Repeat.l1, if_neg (by simp)]) k (by omega)
  simpa using this
theorem rep_l0 {set : List Tile} {p : Pattern} {W H : Nat} (f : PForm set p W H) {w h : Nat} (hw : w ≤ 40000) (hh : h ≤ 40000) (hwh2 : h * w ≤ 40000) {k : Nat} (hk : h + w + 1 < k) : tile_Repeat.l0 k [] 0 p w h = some (repS p W H w h) := by
  have := loop_to (F := fun k i l => tile_Repeat.l0 k l i p w h) (S := fun i => repS p W H w i) (n := h) (K := w + 1) (r := repS p W H w h) (fun k y hk hy => by
    show tile_Repeat.l0 (k + 1) (repS p W H w y) y p w h = tile_Repeat.l0 k (repS p W H w (y + 1)) ((y + 1 : Nat) : Int) p w h
    have hl := repS_len p W H w y
    have hm : y * w ≤ h * w := Nat.mul_le_mul_right w (by omega)
    rw [tile_Repeat.l0, if_pos (by simpa using hy), rep_l1 f hw (by omega) _ (by omega) (by omega), Option.bind_some, w64_id (by omega) (by omega)]
    unfold repS
    rw [flat_succ]; rfl) (fun k => by
    show tile_Repeat.l0 (k + 1) (repS p W H w h) h p w h = _
    rw [tile_Repeat.l0, if_neg (by simp)]) k (by omega)
  exact this
theorem repeat_eq {set : List Tile} {p : Pattern} {W H : Nat} (f : PForm set p W H) (hv : validT set = true) {w h : Nat} (hw : 1 ≤ w ∧ w ≤ 40000) (hh : 1 ≤ h ∧ h ≤ 40000) (hwh2 : h * w ≤ 40000) {k : Nat} (hk : h + w + 1 < k) : tile_Repeat k p w h = some (⟨w, h, repS p W H w h⟩, 0) := by
  have hf : formB p = true := by
    have := f.of hv
    unfold ofB at this
    simp only [Bool.and_eq_true] at this
    exact this.1.2
  have e : (w : Int) * (h : Int) = ((h * w : Nat) : Int) := by rw [Int.natCast_mul, Int.mul_comm]
  unfold tile_Repeat
  rw [form_eq, hf, Option.bind_some, if_neg (by simp), if_neg (by simp; omega), e, w64_id (n := ((h * w : Nat) : Int)) (by omega) (by omega), if_neg (by simp only [Bool.or_eq_true, decide_eq_true_eq]; omega), rep_l0 f hw.2 hh.2 hwh2 hk]; rfl
theorem rep_tl (set : List Tile) (p : Pattern) (W H : Nat) {w h x y : Nat} (a b : Int) (hx : x < w) (hy : y < h) : tl set ⟨a, b, repS p W H w h⟩ (y * w + x) = tl set p (y % H * W + x % W) := by
  unfold tl
  simp only
  rw [repS_get p W H hx hy]; rfl
theorem rep_form {set : List Tile} {p : Pattern} {W H : Nat} (f : PForm set p W H) {w h : Nat} (hw : 1 ≤ w ∧ w ≤ 40000) (hh : 1 ≤ h ∧ h ≤ 40000) (hwh2 : h * w ≤ 40000) : PForm set ⟨w, h, repS p W H w h⟩ w h := by
  have hdW := f.dW
  have hdH := f.dH
  refine ⟨rfl, rfl, hw, hh, hwh2, repS_len p W H w h, fun j hj => ?_⟩
  have hx : j % w < w := Nat.mod_lt _ (by omega)
  have hy : j / w < h := Nat.div_lt_of_lt_mul (by rw [Nat.mul_comm]; exact hj)
  have ej : j / w * w + j % w = j := by rw [Nat.mul_comm, Nat.div_add_mod]
  have := repS_get p W H hx hy
  rw [ej] at this
  simp only
  rw [this]
  exact f.cel _ (place_lt (Nat.mod_lt _ (by omega)) (Nat.mod_lt _ (by omega)))
theorem rep_joins {set : List Tile} {p : Pattern} {W H : Nat} (f : PForm set p W H) (hr : ((List.range (H * W)).all fun i => rightB set p W H true i && upB set p W H true i) = true) {w h : Nat} (hw : 1 ≤ w) : ((List.range (h * w)).all fun i => rightB set ⟨w, h, repS p W H w h⟩ w h false i && upB set ⟨w, h, repS p W H w h⟩ w h false i) = true := by
  have hdW := f.dW
  have hdH := f.dH
  rw [List.all_eq_true] at hr ⊢
  intro i hi
  have hi : i < h * w := by simpa using hi
  have hx : i % w < w := Nat.mod_lt _ (by omega)
  have hy : i / w < h := Nat.div_lt_of_lt_mul (by rw [Nat.mul_comm]; exact hi)
  have ei : i / w * w + i % w = i := by rw [Nat.mul_comm, Nat.div_add_mod]
  have e0 := rep_tl set p W H (w : Int) (h : Int) hx hy
  rw [ei] at e0
  unfold rightB upB
  generalize i / w = y at hy e0 ⊢
  generalize i % w = x at hx e0 ⊢
  have hx2 : x % W < W := Nat.mod_lt _ (by omega)
  have hy2 : y % H < H := Nat.mod_lt _ (by omega)
  have hp := hr (y % H * W + x % W) (by simpa using place_lt hx2 hy2)
  rw [Bool.and_eq_true] at hp
  have q1 : (y % H * W + x % W) % W = x % W := by rw [Nat.mul_comm, Nat.mul_add_mod, Nat.mod_eq_of_lt hx2]
  have q2 : (y % H * W + x % W) / W = y % H := by rw [Nat.mul_comm, Nat.mul_add_div (by omega), Nat.div_eq_of_lt hx2]; omega
  unfold rightB upB at hp
  rw [q1, q2] at hp
  simp only [Bool.or_true, Bool.not_true, Bool.false_or] at hp
  rw [e0, Bool.and_eq_true]
  constructor
  · by_cases h1 : x + 1 < w
    · rw [Nat.mod_eq_of_lt h1, rep_tl set p W H (w : Int) (h : Int) h1 hy, ← Nat.mod_add_mod x W 1]
      simp only [h1, decide_true, Bool.true_or, Bool.not_true, Bool.false_or]
      exact hp.1
    · simp [h1]
  · by_cases h1 : y + 1 < h
    · rw [Nat.mod_eq_of_lt h1, rep_tl set p W H (w : Int) (h : Int) hx h1, ← Nat.mod_add_mod y H 1]
      simp only [h1, decide_true, Bool.true_or, Bool.not_true, Bool.false_or]
      exact hp.2
    · simp [h1]
theorem repeats_eq {set : List Tile} {p : Pattern} {W H : Nat} (f : PForm set p W H) (hv : validT set = true) (hl : set.length ≤ 9223372036854775807) {k : Nat} (hk : 40001 ≤ k) : tile_Repeats k set p = some ((List.range (H * W)).all fun i => rightB set p W H true i && upB set p W H true i) := by
  unfold tile_Repeats
  rw [of_eq set p hk hl, f.of hv, Option.bind_some, if_pos rfl, joins_eq f true hk]; rfl
theorem fits_no {set : List Tile} {p : Pattern} (h : ofB set p = false) (hl : set.length ≤ 9223372036854775807) {k : Nat} (hk : 40001 ≤ k) : tile_Fits k set p = some false ∧ tile_Repeats k set p = some false := by
  unfold tile_Fits tile_Repeats
  rw [of_eq set p hk hl, h]
  exact ⟨rfl, rfl⟩
end Gp
set_option linter.unusedVariables false
set_option linter.unusedSimpArgs false
namespace Gp
open Gw Gq
/-! ### the first layer's reference -/
theorem awake01_ok (k : Nat) : law01_awake (k + 100) = some true := by kernel_rfl
theorem colour01 (c : Int) : ref01_colour c = some (inCol c) := by
  unfold ref01_colour inCol
  by_cases h : 0 ≤ c ∧ c < 1000
  · simp [h]
  · rw [decide_eq_false h]
    congr 1
    cases h1 : decide (c ≥ 0)
    · rfl
    · have : ¬ c < 1000 := fun h2 => h ⟨by simpa using h1, h2⟩
      simp [this]
theorem index01 {set : List Tile} (hl : set.length ≤ 1000000) (t : Tile) {k : Nat} (hk : set.length < k) : ∃ r : Int, ref01_Index k set t = some r ∧ decide (r ≥ 0) = decide (t ∈ set) := by
  have := scan (F := fun k i => ref01_Index.l0 k i set t) (xs := set) (g := fun i a => if a = t then some (i : Int) else none) (fun k i hi => by
    show ref01_Index.l0 (k + 1) i set t = _
    rw [ref01_Index.l0]
    by_cases h : i < set.length
    · have h2 : 0 ≤ (i : Int) ∧ (i : Int) < (set.length : Int) := by omega
      rw [dif_pos h, if_pos (by simpa using h), if_pos h2, rdD_get h, w64_id (by omega) (by omega)]
      by_cases hb : set[i] = t
      · subst hb; simp
      · have : ((set[i].N == t.N) && ((set[i].E == t.E) && ((set[i].S == t.S) && (set[i].W == t.W)))) = false := by
          cases hc : ((set[i].N == t.N) && ((set[i].E == t.E) && ((set[i].S == t.S) && (set[i].W == t.W))))
          · rfl
          · simp only [Bool.and_eq_true, beq_iff_eq] at hc
            exact absurd (Tile.ext' hc.1 hc.2.1 hc.2.2.1 hc.2.2.2) hb
        rw [this, if_neg hb]; rfl
    · rw [dif_neg h, if_neg (by simpa using h)]) set.length k 0 (by simp) hk
  have h0 : ref01_Index.l0 k 0 set t = some (fin (firstS (fun i a => if a = t then some (i : Int) else none) 0 (set.drop 0))) := this
  rw [List.drop_zero] at h0
  have key : ∀ (l : List Tile) (i : Nat), match firstS (fun i a => if a = t then some (i : Int) else none) i l with
      | some x => decide (x ≥ 0) = decide (t ∈ l)
      | none => decide (t ∈ l) = false := by
    intro l
    induction l with
    | nil => intro i; simp [firstS]
    | cons a r ih =>
      intro i
      rw [firstS]
      by_cases ha : a = t
      · subst ha; simp
      · have hne : ¬ t = a := fun e => ha e.symm
        rw [if_neg ha]
        have := ih (i + 1)
        cases hf : firstS (fun i a => if a = t then some (i : Int) else none) (i + 1) r with
        | none => rw [hf] at this; simp only [List.mem_cons, hne, false_or]; exact this
        | some x => rw [hf] at this; simp only [List.mem_cons, hne, false_or]; exact this
  unfold ref01_Index
  rw [h0]
  have hk2 := key set 0
  cases hf : firstS (fun i a => if a = t then some (i : Int) else none) 0 set with
  | none => rw [hf] at hk2; exact ⟨-1, rfl, by rw [hk2]; rfl⟩
  | some x => rw [hf] at hk2; exact ⟨x, rfl, hk2⟩
theorem valid01 (set : List Tile) {k : Nat} (hk : 2002 < k) (hl : set.length ≤ 9223372036854775807) : ref01_Valid k set = some (validT set) := by
  unfold ref01_Valid validT
  by_cases hb : set.length ≤ 1000
  · rw [if_neg (by simp; omega)]
    have := loop_all (F := fun k i (_ : Unit) => ref01_Valid.l0 k i set) (S := fun _ => ()) (b := newB set) (n := set.length) (K := 1001) (r := false) (e := ()) (fun k i hk hi => by
      show ref01_Valid.l0 (k + 1) i set = if newB set i = true then ref01_Valid.l0 k ((i + 1 : Nat) : Int) set else _
      have hcut : cut set (0 : Int) (i : Int) = set.take i := by unfold cut; simp
      obtain ⟨r, hr, hd⟩ := index01 (set := set.take i) (by rw [List.length_take]; omega) (set.getD i z_Tile) (k := k) (by rw [List.length_take]; omega)
      rw [ref01_Valid.l0, if_pos (by simpa using hi), if_pos (by omega)]
      simp only [rdD_nat, colour01, Option.bind_some, hcut]
      rw [if_pos (⟨by omega, by omega, by omega⟩ : 0 ≤ (0 : Int) ∧ (0 : Int) ≤ (i : Int) ∧ (i : Int) ≤ (set.length : Int)), hr, w64_id (by omega) (by omega)]
      simp only [Option.bind_some, hd]
      unfold newB colB
      cases inCol (set.getD i z_Tile).N
      · simp
      · cases inCol (set.getD i z_Tile).E
        · simp
        · cases inCol (set.getD i z_Tile).S
          · simp
          · cases inCol (set.getD i z_Tile).W
            · simp
            · cases decide (set.getD i z_Tile ∈ set.take i) <;> simp) (fun k => by
      show ref01_Valid.l0 (k + 1) set.length set = _
      rw [ref01_Valid.l0, if_neg (by simp)]) k (by omega)
    have h0 : ref01_Valid.l0 k 0 set = some (if (List.range set.length).all (newB set) = true then .inr () else .inl false) := this
    rw [h0]
    cases (List.range set.length).all (newB set) <;> simp [sumb, hb]
  · rw [if_pos (by simp; omega)]; simp [hb]
theorem form01 (p : Pattern) : ref01_Form p = some (formB p) := form_eq p
theorem cell01 {set : List Tile} {p : Pattern} {W H : Nat} (f : PForm set p W H) {x y : Nat} (hx : x < W) (hy : y < H) : ref01_Cell p x y = some (p.Cells.getD (y * W + x) 0) := by
  have hwh := f.wh
  have hp := place_lt hx hy
  have e : w64 (w64 ((y : Int) * (W : Int)) + (x : Int)) = ((y * W + x : Nat) : Int) := by
    rw [← Int.natCast_mul, w64_id (n := ((y * W : Nat) : Int)) (by omega) (by omega), w64_id (by omega) (by omega)]; rfl
  unfold ref01_Cell
  rw [f.w, e, if_pos (by rw [f.len]; omega), rdD_nat]
theorem of01_l0 {set : List Tile} {p : Pattern} (hl : p.Cells.length ≤ 1000000) {k : Nat} (hk : p.Cells.length < k) : ref01_Of.l0 k 0 set p = some (if p.Cells.all (inSet set.length) = true then .inr () else .inl false) := by
  have := loop_all (F := fun k i (_ : Unit) => ref01_Of.l0 k i set p) (S := fun _ => ()) (b := fun i => inSet set.length (p.Cells.getD i 0)) (n := p.Cells.length) (K := 0) (r := false) (e := ()) (fun k i hk hi => by
    show ref01_Of.l0 (k + 1) i set p = if inSet set.length (p.Cells.getD i 0) = true then ref01_Of.l0 k ((i + 1 : Nat) : Int) set p else _
    rw [ref01_Of.l0, if_pos (by simpa using hi), if_pos (by omega), rdD_nat, w64_id (by omega) (by omega)]
    unfold inSet
    by_cases h : 0 ≤ p.Cells.getD i 0 ∧ p.Cells.getD i 0 < (set.length : Int)
    · rw [decide_eq_true h, if_neg (by simp only [Bool.or_eq_true, decide_eq_true_eq]; omega)]; rfl
    · rw [decide_eq_false h, if_pos (by simp only [Bool.or_eq_true, decide_eq_true_eq]; omega)]; rfl) (fun k => by
    show ref01_Of.l0 (k + 1) p.Cells.length set p = _
    rw [ref01_Of.l0, if_neg (by simp)]) k (by omega)
  have h0 : ref01_Of.l0 k 0 set p = some (if (List.range p.Cells.length).all (fun i => inSet set.length (p.Cells.getD i 0)) = true then .inr () else .inl false) := this
  rw [h0]
  have e : (List.range p.Cells.length).all (fun i => inSet set.length (p.Cells.getD i 0)) = p.Cells.all (inSet set.length) := by
    rw [Bool.eq_iff_iff, List.all_eq_true, List.all_eq_true]
    constructor
    · intro h a ha
      obtain ⟨j, hj, he⟩ := List.mem_iff_getElem.1 ha
      have := h j (by simpa using hj)
      rwa [show p.Cells.getD j 0 = p.Cells[j] from by simp [List.getElem?_eq_getElem hj], he] at this
    · intro h i hi
      have hi : i < p.Cells.length := by simpa using hi
      rw [show p.Cells.getD i 0 = p.Cells[i] from by simp [List.getElem?_eq_getElem hi]]
      exact h _ (List.getElem_mem hi)
  rw [e]
theorem of01_l2 {set : List Tile} {p : Pattern} {W H : Nat} (f : PForm set p W H) {y : Nat} (hy : y < H) {k : Nat} (hk : W < k) :
    ref01_Of.l2 k 0 set p y = some (if (List.range W).all (fun x => rightB set p W H false (y * W + x) && upB set p W H false (y * W + x)) = true then .inr () else .inl false) := by
  have hwh := f.wh
  have hdW := f.dW
  have hdH := f.dH
  have := loop_all (F := fun k x (_ : Unit) => ref01_Of.l2 k x set p y) (S := fun _ => ()) (b := fun x => rightB set p W H false (y * W + x) && upB set p W H false (y * W + x)) (n := W) (K := 0) (r := false) (e := ()) (fun k x hk hx => by
    show ref01_Of.l2 (k + 1) x set p y = if (rightB set p W H false (y * W + x) && upB set p W H false (y * W + x)) = true then ref01_Of.l2 k ((x + 1 : Nat) : Int) set p y else _
    have q1 : (y * W + x) % W = x := by rw [Nat.mul_comm, Nat.mul_add_mod, Nat.mod_eq_of_lt hx]
    have q2 : (y * W + x) / W = y := by rw [Nat.mul_comm, Nat.mul_add_div (by omega), Nat.div_eq_of_lt hx]; omega
    have e3 : w64 ((x : Int) + 1) = ((x + 1 : Nat) : Int) := by rw [w64_id (by omega) (by omega)]; rfl
    have e5 : w64 ((y : Int) + 1) = ((y + 1 : Nat) : Int) := by rw [w64_id (by omega) (by omega)]; rfl
    have c0 := f.tl (place_lt hx hy)
    rw [ref01_Of.l2, f.w, f.h, if_pos (by simpa using hx), cell01 f hx hy, Option.bind_some]
    rw [if_pos c0.2, c0.1]
    simp only [e3, e5]
    unfold rightB upB
    rw [q1, q2]
    by_cases h1 : x + 1 < W
    · have c1 := f.tl (place_lt h1 hy)
      have d1 : decide (((x + 1 : Nat) : Int) < (W : Int)) = true := decide_eq_true (by omega)
      rw [cell01 f h1 hy]
      simp only [d1, if_true, Option.bind_some]
      simp only [if_pos c1.2, c1.1]
      rw [Nat.mod_eq_of_lt h1, decide_eq_true h1]
      by_cases h2 : y + 1 < H
      · have c2 := f.tl (place_lt hx h2)
        have d2 : decide (((y + 1 : Nat) : Int) < (H : Int)) = true := decide_eq_true (by omega)
        rw [cell01 f hx h2]
        simp only [d2, if_true, Option.bind_some]
        simp only [if_pos c2.2, c2.1]
        rw [Nat.mod_eq_of_lt h2, decide_eq_true h2]
        cases hE : ((tl set p (y * W + x)).E == (tl set p (y * W + (x + 1))).W) <;> cases hN : ((tl set p (y * W + x)).N == (tl set p ((y + 1) * W + x)).S) <;> simp [hE, hN, bne]
      · have d2 : decide (((y + 1 : Nat) : Int) < (H : Int)) = false := decide_eq_false (by omega)
        simp only [d2, Bool.false_eq_true, if_false, decide_eq_false h2]
        cases hE : ((tl set p (y * W + x)).E == (tl set p (y * W + (x + 1))).W) <;> simp [hE, bne]
    · have d1 : decide (((x + 1 : Nat) : Int) < (W : Int)) = false := decide_eq_false (by omega)
      simp only [d1, Bool.false_eq_true, if_false, decide_eq_false h1]
      by_cases h2 : y + 1 < H
      · have c2 := f.tl (place_lt hx h2)
        have d2 : decide (((y + 1 : Nat) : Int) < (H : Int)) = true := decide_eq_true (by omega)
        rw [cell01 f hx h2]
        simp only [d2, if_true, Option.bind_some]
        simp only [if_pos c2.2, c2.1]
        rw [Nat.mod_eq_of_lt h2, decide_eq_true h2]
        cases hN : ((tl set p (y * W + x)).N == (tl set p ((y + 1) * W + x)).S) <;> simp [hN, bne]
      · have d2 : decide (((y + 1 : Nat) : Int) < (H : Int)) = false := decide_eq_false (by omega)
        simp only [d2, Bool.false_eq_true, if_false, decide_eq_false h2]
        simp) (fun k => by
    show ref01_Of.l2 (k + 1) W set p y = _
    rw [ref01_Of.l2, f.w, if_neg (by simp)]) k (by omega)
  exact this
theorem of01_l1 {set : List Tile} {p : Pattern} {W H : Nat} (f : PForm set p W H) {k : Nat} (hk : H + 40001 < k) :
    ref01_Of.l1 k 0 set p = some (if (List.range (H * W)).all (fun i => rightB set p W H false i && upB set p W H false i) = true then .inr () else .inl false) := by
  have hdW := f.dW
  have hdH := f.dH
  have := loop_all (F := fun k y (_ : Unit) => ref01_Of.l1 k y set p) (S := fun _ => ()) (b := fun y => (List.range W).all (fun x => rightB set p W H false (y * W + x) && upB set p W H false (y * W + x))) (n := H) (K := 40001) (r := false) (e := ()) (fun k y hk hy => by
    show ref01_Of.l1 (k + 1) y set p = if ((List.range W).all (fun x => rightB set p W H false (y * W + x) && upB set p W H false (y * W + x))) = true then ref01_Of.l1 k ((y + 1 : Nat) : Int) set p else _
    rw [ref01_Of.l1, f.h, if_pos (by simpa using hy), of01_l2 f hy (by omega), w64_id (by omega) (by omega), Option.bind_some]
    cases (List.range W).all (fun x => rightB set p W H false (y * W + x) && upB set p W H false (y * W + x)) <;> rfl) (fun k => by
    show ref01_Of.l1 (k + 1) H set p = _
    rw [ref01_Of.l1, f.h, if_neg (by simp)]) k (by omega)
  rw [all_mul]
  exact this
def inB (set : List Tile) (p : Pattern) : Bool := formB p && p.Cells.all (inSet set.length)
theorem inB_iff {set : List Tile} {p : Pattern} (h : inB set p = true) : ∃ W H, PForm set p W H := by
  unfold inB at h
  simp only [Bool.and_eq_true, List.all_eq_true] at h
  obtain ⟨h2, h3⟩ := h
  refine ⟨p.Width.toNat, p.Height.toNat, ?_⟩
  unfold formB at h2
  simp only [decide_eq_true_eq] at h2
  obtain ⟨a1, a2, a3, a4, a5, a6⟩ := h2
  have e : ((p.Height.toNat * p.Width.toNat : Nat) : Int) = p.Width * p.Height := by rw [Int.natCast_mul, Int.toNat_of_nonneg (by omega), Int.toNat_of_nonneg (by omega), Int.mul_comm]
  refine ⟨by omega, by omega, by omega, by omega, by omega, by omega, fun j hj => ?_⟩
  have hj2 : j < p.Cells.length := by omega
  have := h3 (p.Cells.getD j 0) (by rw [show p.Cells.getD j 0 = p.Cells[j] from by simp [List.getElem?_eq_getElem hj2]]; exact List.getElem_mem _)
  simpa [inSet] using this
theorem of01_no {set : List Tile} {p : Pattern} (h : inB set p = false) {k : Nat} (hk : 80002 < k) : ref01_Of k set p = some false := by
  unfold ref01_Of
  rw [form01, Option.bind_some]
  cases hf : formB p
  · rfl
  · rw [if_neg (by simp)]
    have := formB_len hf
    unfold inB at h
    rw [hf, Bool.true_and] at h
    rw [of01_l0 (by omega) (by omega), h]; rfl
theorem PForm.inB {set : List Tile} {p : Pattern} {W H : Nat} (f : PForm set p W H) : formB p = true ∧ p.Cells.all (inSet set.length) = true := by
  have h1 := f.dW; have h2 := f.dH; have h3 := f.wh
  have e : p.Width * p.Height = ((H * W : Nat) : Int) := by rw [f.w, f.h, Int.natCast_mul, Int.mul_comm]
  constructor
  · unfold formB; rw [e, f.w, f.h, f.len]; exact decide_eq_true ⟨by omega, by omega, by omega, by omega, by omega, rfl⟩
  · rw [List.all_eq_true]
    intro a ha
    obtain ⟨j, hj, he⟩ := List.mem_iff_getElem.1 ha
    have := f.cel j (by rw [← f.len]; exact hj)
    rw [show p.Cells.getD j 0 = p.Cells[j] from by simp [List.getElem?_eq_getElem hj], he] at this
    unfold inSet; exact decide_eq_true this
theorem of01_eq {set : List Tile} {p : Pattern} {W H : Nat} (f : PForm set p W H) {k : Nat} (hk : 80002 < k) : ref01_Of k set p = some ((List.range (H * W)).all fun i => rightB set p W H false i && upB set p W H false i) := by
  have hdH := f.dH
  have hwh := f.wh
  have hi := f.inB
  unfold ref01_Of
  rw [form01, Option.bind_some, hi.1, if_neg (by simp), of01_l0 (by rw [f.len]; omega) (by rw [f.len]; omega), hi.2, Option.bind_some]
  simp only [if_true, sumb]
  rw [of01_l1 f (by omega), Option.bind_some]
  cases (List.range (H * W)).all (fun i => rightB set p W H false i && upB set p W H false i) <;> rfl
theorem round_iff {set : List Tile} {p : Pattern} {W H : Nat} (f : PForm set p W H) : ((List.range (H * W)).all fun i => rightB set p W H true i && upB set p W H true i) =
    (((List.range (H * W)).all fun i => rightB set p W H false i && upB set p W H false i) && (List.range H).all (fun y => (tl set p (y * W + (W - 1))).E == (tl set p (y * W + 0)).W) && (List.range W).all (fun x => (tl set p ((H - 1) * W + x)).N == (tl set p (0 * W + x)).S)) := by
  have hdW := f.dW
  have hdH := f.dH
  have q1 : ∀ y x, x < W → (y * W + x) % W = x := fun y x hx => by rw [Nat.mul_comm, Nat.mul_add_mod, Nat.mod_eq_of_lt hx]
  have q2 : ∀ y x, x < W → (y * W + x) / W = y := fun y x hx => by rw [Nat.mul_comm, Nat.mul_add_div (by omega), Nat.div_eq_of_lt hx]; omega
  rw [Bool.eq_iff_iff, Bool.and_eq_true, Bool.and_eq_true]
  simp only [List.all_eq_true, List.mem_range, Bool.and_eq_true]
  constructor
  · intro h
    refine ⟨⟨fun i hi => ?_, fun y hy => ?_⟩, fun x hx => ?_⟩
    · have := h i hi
      unfold rightB upB at this ⊢
      simp only [Bool.or_true, Bool.not_true, Bool.false_or] at this
      exact ⟨by rw [this.1, Bool.or_true], by rw [this.2, Bool.or_true]⟩
    · have := (h _ (place_lt (show W - 1 < W by omega) hy)).1
      unfold rightB at this
      rw [q1 y _ (by omega), q2 y _ (by omega), show W - 1 + 1 = W by omega, Nat.mod_self] at this
      simpa using this
    · have := (h _ (place_lt hx (show H - 1 < H by omega))).2
      unfold upB at this
      rw [q1 _ x hx, q2 _ x hx, show H - 1 + 1 = H by omega, Nat.mod_self] at this
      simpa using this
  · rintro ⟨⟨h1, h2⟩, h3⟩ i hi
    have hx : i % W < W := Nat.mod_lt _ (by omega)
    have hy : i / W < H := Nat.div_lt_of_lt_mul (by rw [Nat.mul_comm]; exact hi)
    have ei : i / W * W + i % W = i := by rw [Nat.mul_comm, Nat.div_add_mod]
    have hh := h1 i hi
    unfold rightB upB at hh ⊢
    simp only [Bool.or_true, Bool.not_true, Bool.false_or]
    constructor
    · by_cases hc : i % W + 1 < W
      · simpa [hc] using hh.1
      · have e1 : i % W + 1 = W := by omega
        have := h2 _ hy
        rw [e1, Nat.mod_self]
        rw [show i / W * W + (W - 1) = i by omega] at this
        exact this
    · by_cases hc : i / W + 1 < H
      · simpa [hc] using hh.2
      · have e1 : i / W + 1 = H := by omega
        have := h3 _ hx
        rw [e1, Nat.mod_self]
        rw [show H - 1 = i / W by omega, ei] at this
        exact this
end Gp
set_option linter.unusedVariables false
set_option linter.unusedSimpArgs false
namespace Gp
open Gw Gq
/-! ### grids: lists of rows -/
def grid (w h : Nat) (g : Nat → Nat → Int) : List Int := (List.range h).flatMap fun y => (List.range w).map (g y)
theorem grid_len (w h : Nat) (g : Nat → Nat → Int) : (grid w h g).length = h * w := flat_len (f := fun y => (List.range w).map (g y)) (b := w) (fun y => by simp) h
theorem grid_get (w h : Nat) (g : Nat → Nat → Int) {x y : Nat} (hx : x < w) (hy : y < h) : (grid w h g).getD (y * w + x) 0 = g y x := by
  have := flat_get (f := fun y => (List.range w).map (g y)) (n := h) (q := y) (j := x) (t := g y x) hy (by simp [hx])
  have e : ((List.range y).flatMap fun y => (List.range w).map (g y)).length = y * w := grid_len w y g
  rw [e] at this
  unfold grid
  rw [List.getD_eq_getElem?_getD, this]; rfl
theorem grid_ext {w h : Nat} {g : Nat → Nat → Int} {L : List Int} (hl : L.length = h * w) (he : ∀ y x, y < h → x < w → L.getD (y * w + x) 0 = g y x) : L = grid w h g := by
  apply List.ext_getElem
  · rw [hl, grid_len]
  · intro i h1 h2
    have hi : i < h * w := by omega
    have hw : 0 < w := by
      rcases Nat.eq_zero_or_pos w with h0 | h0
      · subst h0; simp at hi
      · exact h0
    have hx : i % w < w := Nat.mod_lt _ hw
    have hy : i / w < h := Nat.div_lt_of_lt_mul (by rw [Nat.mul_comm]; exact hi)
    have ei : i / w * w + i % w = i := by rw [Nat.mul_comm, Nat.div_add_mod]
    have a := he _ _ hy hx
    have b := grid_get w h g hx hy
    rw [ei] at a b
    have e1 : L.getD i 0 = L[i] := by simp [List.getElem?_eq_getElem h1]
    have e2 : (grid w h g).getD i 0 = (grid w h g)[i] := by simp [List.getElem?_eq_getElem h2]
    rw [← e1, ← e2, a, b]
theorem grid_congr {w h : Nat} {g g' : Nat → Nat → Int} (he : ∀ y x, y < h → x < w → g y x = g' y x) : grid w h g = grid w h g' :=
  grid_ext (grid_len w h g) fun y x hy hx => by rw [grid_get w h g hx hy, he y x hy hx]
theorem grid_app {F0 : Nat → List Int → Int → Option (List Int)} {F1 : Nat → Nat → List Int → Int → Option (List Int)} {w h : Nat} {g : Nat → Nat → Int} (hm : h * w ≤ 1000000)
    (h1 : ∀ k y x acc, y < h → x < w → acc.length ≤ 1000000 → F1 y (k + 1) acc (x : Int) = F1 y k (acc ++ [g y x]) ((x + 1 : Nat) : Int))
    (h1e : ∀ k y acc, y < h → F1 y (k + 1) acc (w : Int) = some acc)
    (h0 : ∀ k y acc, y < h → F0 (k + 1) acc (y : Int) = (F1 y k acc 0).bind fun r => F0 k r ((y + 1 : Nat) : Int))
    (h0e : ∀ k acc, F0 (k + 1) acc (h : Int) = some acc) {k : Nat} (hk : h + w + 1 < k) : F0 k [] 0 = some (grid w h g) := by
  have row : ∀ y acc k, y < h → acc.length + w ≤ 1000000 → w < k → F1 y k acc 0 = some (acc ++ (List.range w).map (g y)) := by
    intro y acc k hy ha hk
    have := loop_to (F := fun k i l => F1 y k l i) (S := fun i => acc ++ (List.range i).map (g y)) (n := w) (K := 0) (r := acc ++ (List.range w).map (g y)) (fun k x _ hx => by
      show F1 y (k + 1) (acc ++ (List.range x).map (g y)) x = F1 y k (acc ++ (List.range (x + 1)).map (g y)) ((x + 1 : Nat) : Int)
      rw [h1 k y x _ hy hx (by simp; omega), map_succ, List.append_assoc]) (fun k => h1e k y _ hy) k (by omega)
    simpa using this
  have := loop_to (F := fun k i l => F0 k l i) (S := fun i => grid w i g) (n := h) (K := w + 1) (r := grid w h g) (fun k y hk hy => by
    show F0 (k + 1) (grid w y g) y = F0 k (grid w (y + 1) g) ((y + 1 : Nat) : Int)
    have hl := grid_len w y g
    have hle : (y + 1) * w ≤ h * w := Nat.mul_le_mul_right w (by omega)
    rw [Nat.add_mul, Nat.one_mul] at hle
    rw [h0 k y _ hy, row y _ _ hy (by omega) (by omega), Option.bind_some]
    unfold grid
    rw [flat_succ]) (fun k => h0e k _) k (by omega)
  exact this
/-! ### stores into a list -/
def sets (l : List Int) (q : List (Nat × Int)) : List Int := q.foldl (fun l p => l.set p.1 p.2) l
theorem sets_len : ∀ (q : List (Nat × Int)) (l : List Int), (sets l q).length = l.length
  | [], l => rfl
  | p :: q, l => by
    have := sets_len q (l.set p.1 p.2)
    rw [List.length_set] at this
    exact this
theorem sets_append (l : List Int) (q r : List (Nat × Int)) : sets l (q ++ r) = sets (sets l q) r := by unfold sets; rw [List.foldl_append]
theorem sets_get {i : Nat} {v : Int} : ∀ (q : List (Nat × Int)) (l : List Int), (∀ p ∈ q, p.1 = i → p.2 = v) → (l.getD i 0 = v ∨ (i, v) ∈ q) → i < l.length → (sets l q).getD i 0 = v
  | [], l, _, h, _ => by
    rcases h with h | h
    · exact h
    · cases h
  | p :: q, l, hc, h, hi => by
    show (sets (l.set p.1 p.2) q).getD i 0 = v
    apply sets_get q _ (fun p' hp => hc p' (List.mem_cons_of_mem _ hp)) _ (by rw [List.length_set]; exact hi)
    by_cases he : p.1 = i
    · left
      have hv := hc p (List.mem_cons_self ..) he
      rw [List.getD_eq_getElem?_getD, he, List.getElem?_set_self hi, hv]; rfl
    · rcases h with h | h
      · left
        rw [List.getD_eq_getElem?_getD, List.getElem?_set_ne he, ← List.getD_eq_getElem?_getD]; exact h
      · right
        rcases List.mem_cons.1 h with h | h
        · exact absurd (by rw [← h]) he
        · exact h
def rowQ (pos : Nat → Nat → Nat) (g : Nat → Nat → Int) (w y : Nat) : List (Nat × Int) := (List.range w).map fun x => (pos y x, g y x)
def allQ (pos : Nat → Nat → Nat) (g : Nat → Nat → Int) (w h : Nat) : List (Nat × Int) := (List.range h).flatMap (rowQ pos g w)
theorem grid_set {F0 : Nat → List Int → Int → Option (List Int)} {F1 : Nat → Nat → List Int → Int → Option (List Int)} {w h n : Nat} {pos : Nat → Nat → Nat} {g : Nat → Nat → Int}
    (hp : ∀ y x, y < h → x < w → pos y x < n) (hinj : ∀ y x y' x', y < h → x < w → y' < h → x' < w → pos y x = pos y' x' → y = y' ∧ x = x')
    (h1 : ∀ k y x (l : List Int), y < h → x < w → l.length = n → F1 y (k + 1) l (x : Int) = F1 y k (l.set (pos y x) (g y x)) ((x + 1 : Nat) : Int))
    (h1e : ∀ k y l, y < h → F1 y (k + 1) l (w : Int) = some l)
    (h0 : ∀ k y l, y < h → F0 (k + 1) l (y : Int) = (F1 y k l 0).bind fun r => F0 k r ((y + 1 : Nat) : Int))
    (h0e : ∀ k l, F0 (k + 1) l (h : Int) = some l) {k : Nat} (hk : h + w + 1 < k) {l : List Int} (hl : l.length = n) :
    ∃ r, F0 k l 0 = some r ∧ r.length = n ∧ ∀ y x, y < h → x < w → r.getD (pos y x) 0 = g y x := by
  have row : ∀ y l k, y < h → l.length = n → w < k → F1 y k l 0 = some (sets l (rowQ pos g w y)) := by
    intro y l k hy ha hk
    have := loop_to (F := fun k i l => F1 y k l i) (S := fun i => sets l (rowQ pos g i y)) (n := w) (K := 0) (r := sets l (rowQ pos g w y)) (fun k x _ hx => by
      show F1 y (k + 1) (sets l (rowQ pos g x y)) x = F1 y k (sets l (rowQ pos g (x + 1) y)) ((x + 1 : Nat) : Int)
      rw [h1 k y x _ hy hx (by rw [sets_len]; exact ha)]
      have e : rowQ pos g (x + 1) y = rowQ pos g x y ++ [(pos y x, g y x)] := by unfold rowQ; rw [map_succ]
      rw [e, sets_append]; rfl) (fun k => h1e k y _ hy) k (by omega)
    exact this
  have := loop_to (F := fun k i l => F0 k l i) (S := fun i => sets l (allQ pos g w i)) (n := h) (K := w + 1) (r := sets l (allQ pos g w h)) (fun k y hk hy => by
    show F0 (k + 1) (sets l (allQ pos g w y)) y = F0 k (sets l (allQ pos g w (y + 1))) ((y + 1 : Nat) : Int)
    rw [h0 k y _ hy, row y _ _ hy (by rw [sets_len]; exact hl) (by omega), Option.bind_some]
    have e : allQ pos g w (y + 1) = allQ pos g w y ++ rowQ pos g w y := by unfold allQ; rw [flat_succ]
    rw [e, sets_append]) (fun k => h0e k _) k (by omega)
  have h0 : F0 k l 0 = some (sets l (allQ pos g w h)) := this
  refine ⟨_, h0, by rw [sets_len]; exact hl, fun y x hy hx => ?_⟩
  apply sets_get
  · intro p hpm hpe
    obtain ⟨y', hy', hpm⟩ := List.mem_flatMap.1 hpm
    obtain ⟨x', hx', rfl⟩ := List.mem_map.1 hpm
    obtain ⟨rfl, rfl⟩ := hinj y' x' y x (by simpa using hy') (by simpa using hx') hy hx hpe
    rfl
  · right
    exact List.mem_flatMap.2 ⟨y, by simpa using hy, List.mem_map.2 ⟨x, by simpa using hx, rfl⟩⟩
  · rw [hl]; exact hp y x hy hx
/-! ### patterns that have the form of one -/
structure GForm (p : Pattern) (W H : Nat) : Prop where
  w : p.Width = W
  h : p.Height = H
  dW : 1 ≤ W ∧ W ≤ 40000
  dH : 1 ≤ H ∧ H ≤ 40000
  wh : H * W ≤ 40000
  len : p.Cells.length = H * W
theorem gform_of {p : Pattern} (h2 : formB p = true) : ∃ W H, GForm p W H := by
  refine ⟨p.Width.toNat, p.Height.toNat, ?_⟩
  unfold formB at h2
  simp only [decide_eq_true_eq] at h2
  obtain ⟨a1, a2, a3, a4, a5, a6⟩ := h2
  have e : ((p.Height.toNat * p.Width.toNat : Nat) : Int) = p.Width * p.Height := by rw [Int.natCast_mul, Int.toNat_of_nonneg (by omega), Int.toNat_of_nonneg (by omega), Int.mul_comm]
  exact ⟨by omega, by omega, by omega, by omega, by omega, by omega⟩
theorem GForm.form {p : Pattern} {W H : Nat} (f : GForm p W H) : formB p = true := by
  have h1 := f.dW; have h2 := f.dH; have h3 := f.wh
  have e : p.Width * p.Height = ((H * W : Nat) : Int) := by rw [f.w, f.h, Int.natCast_mul, Int.mul_comm]
  unfold formB; rw [e, f.w, f.h, f.len]; exact decide_eq_true ⟨by omega, by omega, by omega, by omega, by omega, rfl⟩
theorem PForm.g {set : List Tile} {p : Pattern} {W H : Nat} (f : PForm set p W H) : GForm p W H := ⟨f.w, f.h, f.dW, f.dH, f.wh, f.len⟩
def cellG (p : Pattern) (W y x : Nat) : Int := p.Cells.getD (y * W + x) 0
theorem GForm.at {p : Pattern} {W H : Nat} (f : GForm p W H) {x y : Nat} (hx : x < W) (hy : y < H) : w64 (w64 ((y : Int) * (W : Int)) + (x : Int)) = ((y * W + x : Nat) : Int) ∧ (0 ≤ ((y * W + x : Nat) : Int) ∧ ((y * W + x : Nat) : Int) < (p.Cells.length : Int)) := by
  have hwh := f.wh
  have hp := place_lt hx hy
  refine ⟨?_, by omega, by rw [f.len]; omega⟩
  rw [← Int.natCast_mul, w64_id (n := ((y * W : Nat) : Int)) (by omega) (by omega), w64_id (by omega) (by omega)]; rfl
theorem GForm.cell {p : Pattern} {W H : Nat} (f : GForm p W H) {x y : Nat} (hx : x < W) (hy : y < H) : ref01_Cell p x y = some (cellG p W y x) := by
  have := f.at hx hy
  unfold ref01_Cell
  rw [f.w, this.1, if_pos this.2, rdD_nat]; rfl
theorem succ64 {x : Nat} (h : x ≤ 1000000) : w64 ((x : Int) + 1) = ((x + 1 : Nat) : Int) := by rw [w64_id (by omega) (by omega)]; rfl
/-! ### the changed patterns -/
theorem chg0 {p : Pattern} {W H : Nat} (f : GForm p W H) {k : Nat} (hk : H + W + 1 < k) : tile_changedPattern_at0 k p = some (⟨W, H, grid W H fun y x => cellG p W y (W - 1 - x)⟩, 0) := by
  have hdW := f.dW; have hdH := f.dH; have hwh := f.wh
  have := grid_app (F0 := fun k l y => tile_changedPattern_at0.l0 k l y p ((W : Int), (H : Int))) (F1 := fun y k l x => tile_changedPattern_at0.l1 k l x p ((W : Int), (H : Int)) y) (w := W) (h := H) (g := fun y x => cellG p W y (W - 1 - x)) (by omega)
    (fun k y x acc hy hx ha => by
      show tile_changedPattern_at0.l1 (k + 1) acc x p ((W : Int), (H : Int)) y = _
      have c := f.at (show W - 1 - x < W by omega) hy
      have e : w64 (w64 ((W : Int) - 1) - (x : Int)) = ((W - 1 - x : Nat) : Int) := by rw [w64_id (n := (W : Int) - 1) (by omega) (by omega), w64_id (by omega) (by omega)]; omega
      rw [tile_changedPattern_at0.l1, if_pos (by simpa using hx), tile_changes_2, Option.bind_some]
      simp only [f.w, e]
      rw [c.1, if_pos c.2, if_pos (by simp; omega), rdD_nat, succ64 (by omega)]; rfl)
    (fun k y acc hy => by
      show tile_changedPattern_at0.l1 (k + 1) acc W p ((W : Int), (H : Int)) y = _
      rw [tile_changedPattern_at0.l1, if_neg (by simp)])
    (fun k y acc hy => by
      show tile_changedPattern_at0.l0 (k + 1) acc y p ((W : Int), (H : Int)) = _
      rw [tile_changedPattern_at0.l0, if_pos (by simpa using hy), succ64 (by omega)])
    (fun k acc => by
      show tile_changedPattern_at0.l0 (k + 1) acc H p ((W : Int), (H : Int)) = _
      rw [tile_changedPattern_at0.l0, if_neg (by simp)]) (k := k) hk
  have this : tile_changedPattern_at0.l0 k [] 0 p ((W : Int), (H : Int)) = _ := this
  unfold tile_changedPattern_at0 tile_changes tile_same
  rw [form_eq, f.form, Option.bind_some, if_neg (by simp)]
  simp only [Option.bind_some, f.w, f.h, this]
theorem chg1 {p : Pattern} {W H : Nat} (f : GForm p W H) {k : Nat} (hk : H + W + 1 < k) : tile_changedPattern_at1 k p = some (⟨W, H, grid W H fun y x => cellG p W (H - 1 - y) x⟩, 0) := by
  have hdW := f.dW; have hdH := f.dH; have hwh := f.wh
  have := grid_app (F0 := fun k l y => tile_changedPattern_at1.l0 k l y p ((W : Int), (H : Int))) (F1 := fun y k l x => tile_changedPattern_at1.l1 k l x p ((W : Int), (H : Int)) y) (w := W) (h := H) (g := fun y x => cellG p W (H - 1 - y) x) (by omega)
    (fun k y x acc hy hx ha => by
      show tile_changedPattern_at1.l1 (k + 1) acc x p ((W : Int), (H : Int)) y = _
      have c := f.at hx (show H - 1 - y < H by omega)
      have e : w64 (w64 ((H : Int) - 1) - (y : Int)) = ((H - 1 - y : Nat) : Int) := by rw [w64_id (n := (H : Int) - 1) (by omega) (by omega), w64_id (by omega) (by omega)]; omega
      rw [tile_changedPattern_at1.l1, if_pos (by simpa using hx), tile_changes_4, Option.bind_some]
      simp only [f.w, f.h, e]
      rw [c.1, if_pos c.2, if_pos (by simp; omega), rdD_nat, succ64 (by omega)]; rfl)
    (fun k y acc hy => by
      show tile_changedPattern_at1.l1 (k + 1) acc W p ((W : Int), (H : Int)) y = _
      rw [tile_changedPattern_at1.l1, if_neg (by simp)])
    (fun k y acc hy => by
      show tile_changedPattern_at1.l0 (k + 1) acc y p ((W : Int), (H : Int)) = _
      rw [tile_changedPattern_at1.l0, if_pos (by simpa using hy), succ64 (by omega)])
    (fun k acc => by
      show tile_changedPattern_at1.l0 (k + 1) acc H p ((W : Int), (H : Int)) = _
      rw [tile_changedPattern_at1.l0, if_neg (by simp)]) (k := k) hk
  have this : tile_changedPattern_at1.l0 k [] 0 p ((W : Int), (H : Int)) = _ := this
  unfold tile_changedPattern_at1 tile_changes tile_same
  rw [form_eq, f.form, Option.bind_some, if_neg (by simp)]
  simp only [Option.bind_some, f.w, f.h, this]
theorem chg2 {p : Pattern} {W H : Nat} (f : GForm p W H) {k : Nat} (hk : H + W + 1 < k) : tile_changedPattern_at2 k p = some (⟨H, W, grid H W fun y x => cellG p W x (W - 1 - y)⟩, 0) := by
  have hdW := f.dW; have hdH := f.dH; have hwh := f.wh
  have hc : W * H = H * W := Nat.mul_comm W H
  have := grid_app (F0 := fun k l y => tile_changedPattern_at2.l0 k l y p ((H : Int), (W : Int))) (F1 := fun y k l x => tile_changedPattern_at2.l1 k l x p ((H : Int), (W : Int)) y) (w := H) (h := W) (g := fun y x => cellG p W x (W - 1 - y)) (by omega)
    (fun k y x acc hy hx ha => by
      show tile_changedPattern_at2.l1 (k + 1) acc x p ((H : Int), (W : Int)) y = _
      have c := f.at (show W - 1 - y < W by omega) hx
      have e : w64 (w64 ((W : Int) - 1) - (y : Int)) = ((W - 1 - y : Nat) : Int) := by rw [w64_id (n := (W : Int) - 1) (by omega) (by omega), w64_id (by omega) (by omega)]; omega
      rw [tile_changedPattern_at2.l1, if_pos (by simpa using hx), tile_changes_7, Option.bind_some]
      simp only [f.w, e]
      rw [c.1, if_pos c.2, if_pos (by simp; omega), rdD_nat, succ64 (by omega)]; rfl)
    (fun k y acc hy => by
      show tile_changedPattern_at2.l1 (k + 1) acc H p ((H : Int), (W : Int)) y = _
      rw [tile_changedPattern_at2.l1, if_neg (by simp)])
    (fun k y acc hy => by
      show tile_changedPattern_at2.l0 (k + 1) acc y p ((H : Int), (W : Int)) = _
      rw [tile_changedPattern_at2.l0, if_pos (by simpa using hy), succ64 (by omega)])
    (fun k acc => by
      show tile_changedPattern_at2.l0 (k + 1) acc W p ((H : Int), (W : Int)) = _
      rw [tile_changedPattern_at2.l0, if_neg (by simp)]) (k := k) (by omega)
  have this : tile_changedPattern_at2.l0 k [] 0 p ((H : Int), (W : Int)) = _ := this
  unfold tile_changedPattern_at2 tile_changes tile_changes_6
  rw [form_eq, f.form, Option.bind_some, if_neg (by simp)]
  simp only [Option.bind_some, f.w, f.h, this]
end Gp
set_option linter.unusedVariables false
set_option linter.unusedSimpArgs false
namespace Gp
open Gw Gq
/-! ### cuts -/
theorem cut_range {xs : List Int} {a n : Nat} (h : a + n ≤ xs.length) : cut xs (a : Int) ((a + n : Nat) : Int) = (List.range n).map fun i => xs.getD (a + i) 0 := by
  unfold cut
  simp only [Int.toNat_natCast, Nat.add_sub_cancel_left]
  apply List.ext_getElem
  · simp; omega
  · intro i h1 h2
    have hi : i < n := by simpa using h2
    simp [List.getElem?_eq_getElem (show a + i < xs.length by omega)]
theorem cutG {p : Pattern} {W H : Nat} (f : GForm p W H) {x y w h : Nat} (hw : 1 ≤ w) (hh : 1 ≤ h) (hx : x + w ≤ W) (hy : y + h ≤ H) {k : Nat} (hk : h < k) : tile_Cut k p x y w h = some (⟨w, h, grid w h fun j i => cellG p W (y + j) (x + i)⟩, 0) := by
  have hdW := f.dW; have hdH := f.dH; have hwh := f.wh
  have hm : h * w ≤ H * W := Nat.mul_le_mul (by omega) (by omega)
  have := loop_to (F := fun k i l => tile_Cut.l0 k l i p x y w h) (S := fun i => grid w i fun j i => cellG p W (y + j) (x + i)) (n := h) (K := 0) (r := grid w h fun j i => cellG p W (y + j) (x + i)) (fun k j _ hj => by
    show tile_Cut.l0 (k + 1) (grid w j fun j i => cellG p W (y + j) (x + i)) j p x y w h = tile_Cut.l0 k (grid w (j + 1) fun j i => cellG p W (y + j) (x + i)) ((j + 1 : Nat) : Int) p x y w h
    have hp := place_lt (show x + w - 1 < W by omega) (show y + j < H by omega)
    have hq := place_lt (show x < W by omega) (show y + j < H by omega)
    have e1 : w64 ((y : Int) + (j : Int)) = ((y + j : Nat) : Int) := by rw [w64_id (by omega) (by omega)]; rfl
    have e2 : w64 (w64 (((y + j : Nat) : Int) * (W : Int)) + (x : Int)) = (((y + j) * W + x : Nat) : Int) := by
      rw [← Int.natCast_mul, w64_id (n := (((y + j) * W : Nat) : Int)) (by omega) (by omega), w64_id (by omega) (by omega)]; rfl
    have e3 : w64 ((((y + j) * W + x : Nat) : Int) + (w : Int)) = (((y + j) * W + x + w : Nat) : Int) := by rw [w64_id (by omega) (by omega)]; rfl
    have hl := grid_len w j fun j i => cellG p W (y + j) (x + i)
    have hle : (j + 1) * w ≤ h * w := Nat.mul_le_mul_right w (by omega)
    rw [Nat.add_mul, Nat.one_mul] at hle
    rw [tile_Cut.l0, if_pos (by simpa using hj), f.w, e1, e2, e3, cut_range (by rw [f.len]; omega)]
    rw [if_pos ⟨by omega, by omega, by rw [f.len]; omega⟩, if_pos (by simp; omega), succ64 (by omega)]
    congr 1
    unfold grid
    rw [flat_succ]
    congr 1
    apply List.map_congr_left
    intro i _
    unfold cellG
    rw [Nat.add_assoc]) (fun k => by
    show tile_Cut.l0 (k + 1) _ h p x y w h = _
    rw [tile_Cut.l0, if_neg (by simp)]) k (by omega)
  have this : tile_Cut.l0 k [] 0 p x y w h = _ := this
  unfold tile_Cut
  rw [form_eq, f.form, Option.bind_some, if_neg (by simp), f.w, f.h, w64_id (n := (W : Int) - (w : Int)) (by omega) (by omega), w64_id (n := (H : Int) - (h : Int)) (by omega) (by omega),
    if_neg (by simp only [Bool.or_eq_true, decide_eq_true_eq]; omega), this]; rfl
/-! ### patterns, repeated -/
theorem repG_at {p : Pattern} {W H : Nat} (f : GForm p W H) (x y : Nat) : Int.tmod (x : Int) (W : Int) = ((x % W : Nat) : Int) ∧ Int.tmod (y : Int) (H : Int) = ((y % H : Nat) : Int) ∧ x % W < W ∧ y % H < H := by
  have hdW := f.dW; have hdH := f.dH
  exact ⟨rfl, rfl, Nat.mod_lt _ (by omega), Nat.mod_lt _ (by omega)⟩
theorem repG {p : Pattern} {W H : Nat} (f : GForm p W H) {w h : Nat} (hw : 1 ≤ w ∧ w ≤ 40000) (hh : 1 ≤ h ∧ h ≤ 40000) (hm : h * w ≤ 40000) {k : Nat} (hk : h + w + 1 < k) : tile_Repeat k p w h = some (⟨w, h, grid w h fun j i => cellG p W (j % H) (i % W)⟩, 0) := by
  have hdW := f.dW; have hdH := f.dH; have hwh := f.wh
  have := grid_app (F0 := fun k l j => tile_Repeat.l0 k l j p w h) (F1 := fun j k l i => tile_Repeat.l1 k l i p w j) (w := w) (h := h) (g := fun j i => cellG p W (j % H) (i % W)) (by omega)
    (fun k j i acc hj hi ha => by
      show tile_Repeat.l1 (k + 1) acc i p w j = _
      obtain ⟨t1, t2, t3, t4⟩ := repG_at f i j
      have c := f.at t3 t4
      rw [tile_Repeat.l1, if_pos (by simpa using hi), f.w, f.h, if_pos (by omega), if_pos (by omega), t1, t2, c.1, if_pos c.2, if_pos (by simp; omega), rdD_nat, succ64 (by omega)]; rfl)
    (fun k j acc hj => by
      show tile_Repeat.l1 (k + 1) acc w p w j = _
      rw [tile_Repeat.l1, if_neg (by simp)])
    (fun k j acc hj => by
      show tile_Repeat.l0 (k + 1) acc j p w h = _
      rw [tile_Repeat.l0, if_pos (by simpa using hj), succ64 (by omega)])
    (fun k acc => by
      show tile_Repeat.l0 (k + 1) acc h p w h = _
      rw [tile_Repeat.l0, if_neg (by simp)]) (k := k) hk
  have this : tile_Repeat.l0 k [] 0 p w h = _ := this
  have e : (w : Int) * (h : Int) = ((h * w : Nat) : Int) := by rw [Int.natCast_mul, Int.mul_comm]
  unfold tile_Repeat
  rw [form_eq, f.form, Option.bind_some, if_neg (by simp), if_neg (by simp; omega), e, w64_id (n := ((h * w : Nat) : Int)) (by omega) (by omega), if_neg (by simp only [Bool.or_eq_true, decide_eq_true_eq]; omega), this]; rfl
/-! ### what is equal -/
theorem same01 (l : List Int) (hl : l.length ≤ 1000000) {k : Nat} (hk : l.length < k) : ref01_Same k l l = some true := by
  have := loop_all (F := fun k i (_ : Unit) => ref01_Same.l0 k i l l) (S := fun _ => ()) (b := fun _ => true) (n := l.length) (K := 0) (r := false) (e := ()) (fun k i _ hi => by
    show ref01_Same.l0 (k + 1) i l l = if true = true then ref01_Same.l0 k ((i + 1 : Nat) : Int) l l else _
    rw [ref01_Same.l0, if_pos (by simpa using hi), if_pos (by omega), if_pos (by omega), if_neg (by simp), succ64 (by omega), if_pos rfl]) (fun k => by
    show ref01_Same.l0 (k + 1) l.length l l = _
    rw [ref01_Same.l0, if_neg (by simp)]) k (by omega)
  have this : ref01_Same.l0 k 0 l l = some (if (List.range l.length).all (fun _ => true) = true then .inr () else .inl false) := this
  unfold ref01_Same
  rw [if_neg (by simp), this, if_pos (by simp)]; rfl
theorem samePat (p : Pattern) (hl : p.Cells.length ≤ 1000000) {k : Nat} (hk : p.Cells.length < k) : ref01_SamePattern k p p = some true := by
  unfold ref01_SamePattern
  simp [same01 p.Cells hl hk]
end Gp
set_option linter.unusedVariables false
set_option linter.unusedSimpArgs false
namespace Gp
open Gw Gq
/-! ### changed sets -/
def mirT (t : Tile) : Tile := ⟨t.N, t.W, t.S, t.E⟩
def upT (t : Tile) : Tile := ⟨t.S, t.E, t.N, t.W⟩
def turnT (t : Tile) : Tile := ⟨t.W, t.N, t.E, t.S⟩
theorem take_succ_map {f : Tile → Tile} {s : List Tile} {i : Nat} (h : i < s.length) : (s.map f).take (i + 1) = (s.map f).take i ++ [f (s.getD i z_Tile)] := by
  rw [List.take_add_one, List.getElem?_eq_getElem (by simpa using h)]
  simp [List.getElem?_eq_getElem h]
theorem chset0 {s : List Tile} (hv : validT s = true) {k : Nat} (hk : 1006 ≤ k) : tile_Mirror k s = some (s.map mirT, 0) := by
  have hl : s.length ≤ 1000 := by unfold validT at hv; simp only [Bool.and_eq_true, decide_eq_true_eq] at hv; exact hv.1
  have := loop_to (F := fun k i l => tile_changed_at0.l0 k l i s) (S := fun i => (s.map mirT).take i) (n := s.length) (K := 0) (r := s.map mirT) (fun k i _ hi => by
    show tile_changed_at0.l0 (k + 1) ((s.map mirT).take i) i s = tile_changed_at0.l0 k ((s.map mirT).take (i + 1)) ((i + 1 : Nat) : Int) s
    rw [tile_changed_at0.l0, if_pos (by simpa using hi), if_pos (by omega), tile_changes, Option.bind_some, tile_changes_1, Option.bind_some, if_pos (by simp; omega), succ64 (by omega), take_succ_map hi, rdD_nat]; rfl) (fun k => by
    show tile_changed_at0.l0 (k + 1) ((s.map mirT).take s.length) s.length s = _
    rw [tile_changed_at0.l0, if_neg (by simp), ← List.length_map (f := mirT), List.take_length]) k (by omega)
  have this : tile_changed_at0.l0 k [] 0 s = _ := this
  unfold tile_Mirror tile_changed_at0
  rw [tile_valid s hk (by omega), hv, Option.bind_some, if_neg (by simp), this]; rfl
theorem chset1 {s : List Tile} (hv : validT s = true) {k : Nat} (hk : 1006 ≤ k) : tile_Upturn k s = some (s.map upT, 0) := by
  have hl : s.length ≤ 1000 := by unfold validT at hv; simp only [Bool.and_eq_true, decide_eq_true_eq] at hv; exact hv.1
  have := loop_to (F := fun k i l => tile_changed_at1.l0 k l i s) (S := fun i => (s.map upT).take i) (n := s.length) (K := 0) (r := s.map upT) (fun k i _ hi => by
    show tile_changed_at1.l0 (k + 1) ((s.map upT).take i) i s = tile_changed_at1.l0 k ((s.map upT).take (i + 1)) ((i + 1 : Nat) : Int) s
    rw [tile_changed_at1.l0, if_pos (by simpa using hi), if_pos (by omega), tile_changes, Option.bind_some, tile_changes_3, Option.bind_some, if_pos (by simp; omega), succ64 (by omega), take_succ_map hi, rdD_nat]; rfl) (fun k => by
    show tile_changed_at1.l0 (k + 1) ((s.map upT).take s.length) s.length s = _
    rw [tile_changed_at1.l0, if_neg (by simp), ← List.length_map (f := upT), List.take_length]) k (by omega)
  have this : tile_changed_at1.l0 k [] 0 s = _ := this
  unfold tile_Upturn tile_changed_at1
  rw [tile_valid s hk (by omega), hv, Option.bind_some, if_neg (by simp), this]; rfl
theorem chset2 {s : List Tile} (hv : validT s = true) {k : Nat} (hk : 1006 ≤ k) : tile_Turn k s = some (s.map turnT, 0) := by
  have hl : s.length ≤ 1000 := by unfold validT at hv; simp only [Bool.and_eq_true, decide_eq_true_eq] at hv; exact hv.1
  have := loop_to (F := fun k i l => tile_changed_at2.l0 k l i s) (S := fun i => (s.map turnT).take i) (n := s.length) (K := 0) (r := s.map turnT) (fun k i _ hi => by
    show tile_changed_at2.l0 (k + 1) ((s.map turnT).take i) i s = tile_changed_at2.l0 k ((s.map turnT).take (i + 1)) ((i + 1 : Nat) : Int) s
    rw [tile_changed_at2.l0, if_pos (by simpa using hi), if_pos (by omega), tile_changes, Option.bind_some, tile_changes_5, Option.bind_some, if_pos (by simp; omega), succ64 (by omega), take_succ_map hi, rdD_nat]; rfl) (fun k => by
    show tile_changed_at2.l0 (k + 1) ((s.map turnT).take s.length) s.length s = _
    rw [tile_changed_at2.l0, if_neg (by simp), ← List.length_map (f := turnT), List.take_length]) k (by omega)
  have this : tile_changed_at2.l0 k [] 0 s = _ := this
  unfold tile_Turn tile_changed_at2
  rw [tile_valid s hk (by omega), hv, Option.bind_some, if_neg (by simp), this]; rfl
structure Chg (f : Tile → Tile) : Prop where
  inj : ∀ a b, f a = f b → a = b
  col : ∀ t, colB (f t) = colB t
theorem chg_mir : Chg mirT := ⟨fun a b h => by cases a; cases b; simp only [mirT, Tile.mk.injEq] at h; obtain ⟨rfl, rfl, rfl, rfl⟩ := h; rfl, fun t => by unfold colB mirT; simp only; cases inCol t.N <;> cases inCol t.E <;> cases inCol t.S <;> cases inCol t.W <;> rfl⟩
theorem chg_up : Chg upT := ⟨fun a b h => by cases a; cases b; simp only [upT, Tile.mk.injEq] at h; obtain ⟨rfl, rfl, rfl, rfl⟩ := h; rfl, fun t => by unfold colB upT; simp only; cases inCol t.N <;> cases inCol t.E <;> cases inCol t.S <;> cases inCol t.W <;> rfl⟩
theorem chg_turn : Chg turnT := ⟨fun a b h => by cases a; cases b; simp only [turnT, Tile.mk.injEq] at h; obtain ⟨rfl, rfl, rfl, rfl⟩ := h; rfl, fun t => by unfold colB turnT; simp only; cases inCol t.N <;> cases inCol t.E <;> cases inCol t.S <;> cases inCol t.W <;> rfl⟩
theorem getD_map (f : Tile → Tile) {s : List Tile} {i : Nat} (h : i < s.length) : (s.map f).getD i z_Tile = f (s.getD i z_Tile) := by simp [List.getElem?_eq_getElem h]
theorem Chg.valid {f : Tile → Tile} (c : Chg f) {s : List Tile} (hv : validT s = true) : validT (s.map f) = true := by
  unfold validT at hv ⊢
  simp only [Bool.and_eq_true, decide_eq_true_eq, List.all_eq_true, List.mem_range, List.length_map] at hv ⊢
  refine ⟨hv.1, fun i hi => ?_⟩
  have := hv.2 i hi
  unfold newB at this ⊢
  rw [getD_map f hi, ← List.map_take, c.col]
  simp only [Bool.and_eq_true, Bool.not_eq_true', decide_eq_false_iff_not] at this ⊢
  refine ⟨fun hm => this.1 ?_, this.2⟩
  obtain ⟨a, ha, he⟩ := List.mem_map.1 hm
  rw [← c.inj _ _ he]; exact ha
/-! ### how the tiles of a grid meet -/
def JP (W H : Nat) (round : Bool) (T : Nat → Nat → Tile) : Prop :=
  (∀ y x, y < H → x < W → (x + 1 < W ∨ round = true) → (T y x).E = (T y ((x + 1) % W)).W) ∧ (∀ y x, y < H → x < W → (y + 1 < H ∨ round = true) → (T y x).N = (T ((y + 1) % H) x).S)
theorem JP.congr {W H : Nat} {round : Bool} {T T' : Nat → Nat → Tile} (he : ∀ y x, y < H → x < W → T y x = T' y x) (h : JP W H round T) : JP W H round T' := by
  refine ⟨fun y x hy hx hr => ?_, fun y x hy hx hr => ?_⟩
  · rw [← he y x hy hx, ← he y _ hy (Nat.mod_lt _ (by omega))]; exact h.1 y x hy hx hr
  · rw [← he y x hy hx, ← he _ x (Nat.mod_lt _ (by omega)) hx]; exact h.2 y x hy hx hr
def GP (W H : Nat) (c : Nat → Nat → Int) : Pattern := ⟨W, H, grid W H c⟩
def TT (s : List Tile) (c : Nat → Nat → Int) (y x : Nat) : Tile := s.getD (c y x).toNat z_Tile
theorem join_iff {s : List Tile} {W H : Nat} {c : Nat → Nat → Int} (hW : 1 ≤ W) (hH : 1 ≤ H) (round : Bool) : ((List.range (H * W)).all fun i => rightB s (GP W H c) W H round i && upB s (GP W H c) W H round i) = true ↔ JP W H round (TT s c) := by
  have et : ∀ y x, y < H → x < W → tl s (GP W H c) (y * W + x) = TT s c y x := fun y x hy hx => by
    unfold tl GP TT
    simp only
    rw [grid_get W H c hx hy]
  have q1 : ∀ y x, x < W → (y * W + x) % W = x := fun y x hx => by rw [Nat.mul_comm, Nat.mul_add_mod, Nat.mod_eq_of_lt hx]
  have q2 : ∀ y x, x < W → (y * W + x) / W = y := fun y x hx => by rw [Nat.mul_comm, Nat.mul_add_div (by omega), Nat.div_eq_of_lt hx]; omega
  have key : ∀ y x, y < H → x < W → ((rightB s (GP W H c) W H round (y * W + x) = true ↔ ((x + 1 < W ∨ round = true) → (TT s c y x).E = (TT s c y ((x + 1) % W)).W)) ∧ (upB s (GP W H c) W H round (y * W + x) = true ↔ ((y + 1 < H ∨ round = true) → (TT s c y x).N = (TT s c ((y + 1) % H) x).S))) := fun y x hy hx => by
    unfold rightB upB
    rw [q1 y x hx, q2 y x hx, et y x hy hx, et y _ hy (Nat.mod_lt _ (by omega)), et _ x (Nat.mod_lt _ (by omega)) hx]
    constructor
    · by_cases h1 : x + 1 < W <;> cases round <;> simp [h1]
    · by_cases h1 : y + 1 < H <;> cases round <;> simp [h1]
  rw [List.all_eq_true]
  simp only [List.mem_range, Bool.and_eq_true]
  constructor
  · intro h
    exact ⟨fun y x hy hx => (key y x hy hx).1.1 (h _ (place_lt hx hy)).1, fun y x hy hx => (key y x hy hx).2.1 (h _ (place_lt hx hy)).2⟩
  · intro h i hi
    have hx : i % W < W := Nat.mod_lt _ (by omega)
    have hy : i / W < H := Nat.div_lt_of_lt_mul (by rw [Nat.mul_comm]; exact hi)
    have ei : i / W * W + i % W = i := by rw [Nat.mul_comm, Nat.div_add_mod]
    have := key _ _ hy hx
    rw [ei] at this
    exact ⟨this.1.2 (h.1 _ _ hy hx), this.2.2 (h.2 _ _ hy hx)⟩
structure GOK (s : List Tile) (W H : Nat) (c : Nat → Nat → Int) (whole : Bool) : Prop where
  valid : validT s = true
  dW : 1 ≤ W ∧ W ≤ 40000
  dH : 1 ≤ H ∧ H ≤ 40000
  wh : H * W ≤ 40000
  cel : ∀ y x, y < H → x < W → 0 ≤ c y x ∧ c y x < (s.length : Int)
  fits : JP W H false (TT s c)
  round : whole = true ↔ JP W H true (TT s c)
theorem pform_of {s : List Tile} {W H : Nat} {c : Nat → Nat → Int} (dW : 1 ≤ W ∧ W ≤ 40000) (dH : 1 ≤ H ∧ H ≤ 40000) (wh : H * W ≤ 40000) (cel : ∀ y x, y < H → x < W → 0 ≤ c y x ∧ c y x < (s.length : Int)) : PForm s (GP W H c) W H := by
  refine ⟨rfl, rfl, dW, dH, wh, grid_len W H c, fun j hj => ?_⟩
  have hx : j % W < W := Nat.mod_lt _ (by omega)
  have hy : j / W < H := Nat.div_lt_of_lt_mul (by rw [Nat.mul_comm]; exact hj)
  have ej : j / W * W + j % W = j := by rw [Nat.mul_comm, Nat.div_add_mod]
  have := grid_get W H c hx hy
  rw [ej] at this
  show 0 ≤ (grid W H c).getD j 0 ∧ _
  rw [show (GP W H c).Cells = grid W H c from rfl, this]
  exact cel _ _ hy hx
theorem valid_len {s : List Tile} (hv : validT s = true) : s.length ≤ 1000 := by unfold validT at hv; simp only [Bool.and_eq_true, decide_eq_true_eq] at hv; exact hv.1
theorem GOK.tf {s : List Tile} {W H : Nat} {c : Nat → Nat → Int} {whole : Bool} (g : GOK s W H c whole) {k : Nat} (hk : 40001 ≤ k) : tile_Fits k s (GP W H c) = some true ∧ tile_Repeats k s (GP W H c) = some whole := by
  have f := pform_of g.dW g.dH g.wh g.cel
  have hl := valid_len g.valid
  constructor
  · rw [fits_eq f g.valid (by omega) hk, (join_iff g.dW.1 g.dH.1 false).2 g.fits]
  · rw [repeats_eq f g.valid (by omega) hk]
    congr 1
    rw [Bool.eq_iff_iff, join_iff g.dW.1 g.dH.1 true, g.round]
theorem GOK.congr {s : List Tile} {W H : Nat} {c c' : Nat → Nat → Int} {whole : Bool} (g : GOK s W H c whole) (he : ∀ y x, y < H → x < W → c y x = c' y x) : GOK s W H c' whole := by
  have ht : ∀ y x, y < H → x < W → TT s c y x = TT s c' y x := fun y x hy hx => by unfold TT; rw [he y x hy hx]
  exact ⟨g.valid, g.dW, g.dH, g.wh, fun y x hy hx => by rw [← he y x hy hx]; exact g.cel y x hy hx, g.fits.congr ht, g.round.trans ⟨fun h => h.congr ht, fun h => h.congr (fun y x hy hx => (ht y x hy hx).symm)⟩⟩
theorem TT_map {f : Tile → Tile} {s : List Tile} {c : Nat → Nat → Int} {y x : Nat} (h : 0 ≤ c y x ∧ c y x < (s.length : Int)) : TT (s.map f) c y x = f (TT s c y x) := by
  unfold TT
  rw [getD_map f (by omega)]
/-! mirrored -/
theorem mod_back {W x : Nat} (hx : x < W) : (W - 1 - (x + 1) % W + 1) % W = W - 1 - x ∧ W - 1 - (x + 1) % W < W ∧ (x + 1 < W → W - 1 - (x + 1) % W + 1 < W) := by
  by_cases h : x + 1 < W
  · rw [Nat.mod_eq_of_lt h, show W - 1 - (x + 1) + 1 = W - 1 - x by omega, Nat.mod_eq_of_lt (by omega)]; omega
  · have e : x + 1 = W := by omega
    rw [e, Nat.mod_self, show W - 1 - 0 + 1 = W by omega, Nat.mod_self]; omega
theorem JP.mir {W H : Nat} {round : Bool} {T : Nat → Nat → Tile} (h : JP W H round T) : JP W H round (fun y x => mirT (T y (W - 1 - x))) := by
  refine ⟨fun y x hy hx hr => ?_, fun y x hy hx hr => ?_⟩
  · obtain ⟨e, hlt, hi⟩ := mod_back hx
    have := h.1 y (W - 1 - (x + 1) % W) hy hlt (hr.imp hi id)
    rw [e] at this
    exact this.symm
  · exact h.2 y (W - 1 - x) hy (by omega) hr
theorem JP.up {W H : Nat} {round : Bool} {T : Nat → Nat → Tile} (h : JP W H round T) : JP W H round (fun y x => upT (T (H - 1 - y) x)) := by
  refine ⟨fun y x hy hx hr => ?_, fun y x hy hx hr => ?_⟩
  · exact h.1 (H - 1 - y) x (by omega) hx hr
  · obtain ⟨e, hlt, hi⟩ := mod_back hy
    have := h.2 (H - 1 - (y + 1) % H) x hlt hx (hr.imp hi id)
    rw [e] at this
    exact this.symm
theorem JP.turn {W H : Nat} {round : Bool} {T : Nat → Nat → Tile} (h : JP W H round T) : JP H W round (fun y x => turnT (T x (W - 1 - y))) := by
  refine ⟨fun y x hy hx hr => ?_, fun y x hy hx hr => ?_⟩
  · exact h.2 x (W - 1 - y) hx (by omega) hr
  · obtain ⟨e, hlt, hi⟩ := mod_back hy
    have := h.1 x (W - 1 - (y + 1) % W) hx hlt (hr.imp hi id)
    rw [e] at this
    exact this.symm
theorem GOK.mir {s : List Tile} {W H : Nat} {c : Nat → Nat → Int} {whole : Bool} (g : GOK s W H c whole) : GOK (s.map mirT) W H (fun y x => c y (W - 1 - x)) whole := by
  have hdW := g.dW
  have ht : ∀ y x, y < H → x < W → mirT (TT s c y (W - 1 - x)) = TT (s.map mirT) (fun y x => c y (W - 1 - x)) y x := fun y x hy hx => by
    exact (TT_map (f := mirT) (c := fun y x => c y (W - 1 - x)) (y := y) (x := x) (g.cel y (W - 1 - x) hy (by omega))).symm
  refine ⟨chg_mir.valid g.valid, g.dW, g.dH, g.wh, fun y x hy hx => by rw [List.length_map]; exact g.cel y _ hy (by omega), g.fits.mir.congr ht, ?_⟩
  rw [g.round]
  constructor
  · exact fun h => h.mir.congr ht
  · intro h
    have := (h.congr (fun y x hy hx => (ht y x hy hx).symm)).mir
    exact this.congr fun y x hy hx => by
      rw [show W - 1 - (W - 1 - x) = x by omega]; rfl
theorem GOK.up {s : List Tile} {W H : Nat} {c : Nat → Nat → Int} {whole : Bool} (g : GOK s W H c whole) : GOK (s.map upT) W H (fun y x => c (H - 1 - y) x) whole := by
  have hdH := g.dH
  have ht : ∀ y x, y < H → x < W → upT (TT s c (H - 1 - y) x) = TT (s.map upT) (fun y x => c (H - 1 - y) x) y x := fun y x hy hx => by
    exact (TT_map (f := upT) (c := fun y x => c (H - 1 - y) x) (y := y) (x := x) (g.cel (H - 1 - y) x (by omega) hx)).symm
  refine ⟨chg_up.valid g.valid, g.dW, g.dH, g.wh, fun y x hy hx => by rw [List.length_map]; exact g.cel _ x (by omega) hx, g.fits.up.congr ht, ?_⟩
  rw [g.round]
  constructor
  · exact fun h => h.up.congr ht
  · intro h
    have := (h.congr (fun y x hy hx => (ht y x hy hx).symm)).up
    exact this.congr fun y x hy hx => by
      rw [show H - 1 - (H - 1 - y) = y by omega]; rfl
theorem GOK.turn {s : List Tile} {W H : Nat} {c : Nat → Nat → Int} {whole : Bool} (g : GOK s W H c whole) : GOK (s.map turnT) H W (fun y x => c x (W - 1 - y)) whole := by
  have hdW := g.dW; have hdH := g.dH
  have ht : ∀ y x, y < W → x < H → turnT (TT s c x (W - 1 - y)) = TT (s.map turnT) (fun y x => c x (W - 1 - y)) y x := fun y x hy hx => by
    exact (TT_map (f := turnT) (c := fun y x => c x (W - 1 - y)) (y := y) (x := x) (g.cel x (W - 1 - y) hx (by omega))).symm
  refine ⟨chg_turn.valid g.valid, g.dH, g.dW, by rw [Nat.mul_comm]; exact g.wh, fun y x hy hx => by rw [List.length_map]; exact g.cel x _ hx (by omega), g.fits.turn.congr ht, ?_⟩
  rw [g.round]
  constructor
  · exact fun h => h.turn.congr ht
  · intro h
    have := (h.congr (fun y x hy hx => (ht y x hy hx).symm)).turn.turn.turn
    exact this.congr fun y x hy hx => by
      rw [show H - 1 - (H - 1 - y) = y by omega, show W - 1 - (W - 1 - x) = x by omega]; rfl
theorem GP.g {W H : Nat} {c : Nat → Nat → Int} (dW : 1 ≤ W ∧ W ≤ 40000) (dH : 1 ≤ H ∧ H ≤ 40000) (wh : H * W ≤ 40000) : GForm (GP W H c) W H := ⟨rfl, rfl, dW, dH, wh, grid_len W H c⟩
theorem GP.cell {W H : Nat} (c : Nat → Nat → Int) {y x : Nat} (hy : y < H) (hx : x < W) : cellG (GP W H c) W y x = c y x := grid_get W H c hx hy
theorem gp_mir {W H : Nat} {c : Nat → Nat → Int} (dW : 1 ≤ W ∧ W ≤ 40000) (dH : 1 ≤ H ∧ H ≤ 40000) (wh : H * W ≤ 40000) {k : Nat} (hk : H + W + 1 < k) : tile_MirrorPattern k (GP W H c) = some (GP W H (fun y x => c y (W - 1 - x)), 0) := by
  unfold tile_MirrorPattern
  rw [chg0 (GP.g dW dH wh) hk, Option.bind_some]
  rw [grid_congr (g' := fun y x => c y (W - 1 - x)) (fun y x hy hx => GP.cell c hy (by omega))]; rfl
theorem gp_up {W H : Nat} {c : Nat → Nat → Int} (dW : 1 ≤ W ∧ W ≤ 40000) (dH : 1 ≤ H ∧ H ≤ 40000) (wh : H * W ≤ 40000) {k : Nat} (hk : H + W + 1 < k) : tile_UpturnPattern k (GP W H c) = some (GP W H (fun y x => c (H - 1 - y) x), 0) := by
  unfold tile_UpturnPattern
  rw [chg1 (GP.g dW dH wh) hk, Option.bind_some]
  rw [grid_congr (g' := fun y x => c (H - 1 - y) x) (fun y x hy hx => GP.cell c (by omega) hx)]; rfl
theorem gp_turn {W H : Nat} {c : Nat → Nat → Int} (dW : 1 ≤ W ∧ W ≤ 40000) (dH : 1 ≤ H ∧ H ≤ 40000) (wh : H * W ≤ 40000) {k : Nat} (hk : H + W + 1 < k) : tile_TurnPattern k (GP W H c) = some (GP H W (fun y x => c x (W - 1 - y)), 0) := by
  unfold tile_TurnPattern
  rw [chg2 (GP.g dW dH wh) hk, Option.bind_some]
  rw [grid_congr (g' := fun y x => c x (W - 1 - y)) (fun y x hy hx => GP.cell c hx (by omega))]; rfl
end Gp
set_option linter.unusedVariables false
set_option linter.unusedSimpArgs false
namespace Gp
open Gw Gq
theorem wf8' {n : Int} (h : (Go.Lit.int .u8 n).wf = true) : 0 ≤ n ∧ n ≤ 255 := by simpa [Go.Lit.wf, Go.IntKind.min, Go.IntKind.max, Go.IntKind.signed, Go.IntKind.bits] using h
theorem tstep0 {s : List Tile} {W H : Nat} {c : Nat → Nat → Int} {whole : Bool} (g : GOK s W H c whole) (i : Nat) (hi : i < 4) {k : Nat} (hk : 90000 ≤ k) :
    law01_TileTurned.l0 (k + 1) s W H (grid W H c) i whole = law01_TileTurned.l0 k (s.map turnT) H W (grid H W fun y x => c x (W - 1 - y)) ((i + 1 : Nat) : Int) whole := by
  have hdW := g.dW; have hdH := g.dH
  have e : (Pattern.mk W H (grid W H c)) = GP W H c := rfl
  have e2 : (GP H W fun y x => c x (W - 1 - y)).Width = (H : Int) ∧ (GP H W fun y x => c x (W - 1 - y)).Height = (W : Int) ∧ (GP H W fun y x => c x (W - 1 - y)).Cells = grid H W fun y x => c x (W - 1 - y) := ⟨rfl, rfl, rfl⟩
  have t := g.turn.tf (k := k) (by omega)
  rw [law01_TileTurned.l0, if_pos (decide_eq_true (by omega)), chset2 g.valid (by omega), e, gp_turn g.dW g.dH g.wh (by omega)]
  simp only [Option.bind_some, t.1, t.2, succ64 (show i ≤ 1000000 by omega), e2]
  simp
theorem tstep1 {s : List Tile} {W H : Nat} {c : Nat → Nat → Int} {whole : Bool} (g : GOK s W H c whole) (i : Nat) (hi : i < 2) {k : Nat} (hk : 90000 ≤ k) :
    law01_TileTurned.l1 (k + 1) s W H (grid W H c) i whole = law01_TileTurned.l1 k ((s.map mirT).map upT) W H (grid W H fun y x => c (H - 1 - y) (W - 1 - x)) ((i + 1 : Nat) : Int) whole := by
  have hdW := g.dW; have hdH := g.dH
  have e : (Pattern.mk W H (grid W H c)) = GP W H c := rfl
  have e2 : (GP W H fun y x => c (H - 1 - y) (W - 1 - x)).Width = (W : Int) ∧ (GP W H fun y x => c (H - 1 - y) (W - 1 - x)).Height = (H : Int) ∧ (GP W H fun y x => c (H - 1 - y) (W - 1 - x)).Cells = grid W H fun y x => c (H - 1 - y) (W - 1 - x) := ⟨rfl, rfl, rfl⟩
  have t := g.mir.tf (k := k) (by omega)
  have t2 := g.mir.up.tf (k := k) (by omega)
  rw [law01_TileTurned.l1, if_pos (decide_eq_true (by omega)), chset0 g.valid (by omega), e, gp_mir g.dW g.dH g.wh (by omega)]
  simp only [Option.bind_some]
  rw [chset1 g.mir.valid (by omega), gp_up g.dW g.dH g.wh (by omega)]
  simp only [Option.bind_some, t.1, t.2, t2.1, t2.2, succ64 (show i ≤ 1000000 by omega), e2]
  simp
theorem turn4 (s : List Tile) : (((s.map turnT).map turnT).map turnT).map turnT = s := by
  simp only [List.map_map]
  have : (turnT ∘ (turnT ∘ turnT ∘ turnT)) = id := by funext t; rfl
  rw [this, List.map_id]
theorem mirup2 (s : List Tile) : (((s.map mirT).map upT).map mirT).map upT = s := by
  simp only [List.map_map]
  have : (upT ∘ (mirT ∘ upT ∘ mirT)) = id := by funext t; rfl
  rw [this, List.map_id]
theorem JP.part {W H : Nat} {T : Nat → Nat → Tile} (h : JP W H false T) {x y w h' : Nat} (hx : x + w ≤ W) (hy : y + h' ≤ H) : JP w h' false (fun j i => T (y + j) (x + i)) := by
  refine ⟨fun j i hj hi hr => ?_, fun j i hj hi hr => ?_⟩
  · have h1 : i + 1 < w := by simpa using hr
    have := h.1 (y + j) (x + i) (by omega) (by omega) (.inl (by omega))
    rw [Nat.mod_eq_of_lt (show x + i + 1 < W by omega)] at this
    rw [Nat.mod_eq_of_lt h1]; exact this
  · have h1 : j + 1 < h' := by simpa using hr
    have := h.2 (y + j) (x + i) (by omega) (by omega) (.inl (by omega))
    rw [Nat.mod_eq_of_lt (show y + j + 1 < H by omega)] at this
    rw [Nat.mod_eq_of_lt h1]; exact this
theorem JP.rep {W H : Nat} (hW : 1 ≤ W) (hH : 1 ≤ H) {T : Nat → Nat → Tile} (h : JP W H true T) (w h' : Nat) : JP w h' false (fun j i => T (j % H) (i % W)) := by
  refine ⟨fun j i hj hi hr => ?_, fun j i hj hi hr => ?_⟩
  · have h1 : i + 1 < w := by simpa using hr
    have := h.1 (j % H) (i % W) (Nat.mod_lt _ (by omega)) (Nat.mod_lt _ (by omega)) (.inr rfl)
    rw [Nat.mod_add_mod] at this
    rw [Nat.mod_eq_of_lt h1]; exact this
  · have h1 : j + 1 < h' := by simpa using hr
    have := h.2 (j % H) (i % W) (Nat.mod_lt _ (by omega)) (Nat.mod_lt _ (by omega)) (.inr rfl)
    rw [Nat.mod_add_mod] at this
    rw [Nat.mod_eq_of_lt h1]; exact this
theorem fitsG {s : List Tile} {W H : Nat} {c : Nat → Nat → Int} (hv : validT s = true) (dW : 1 ≤ W ∧ W ≤ 40000) (dH : 1 ≤ H ∧ H ≤ 40000) (wh : H * W ≤ 40000) (cel : ∀ y x, y < H → x < W → 0 ≤ c y x ∧ c y x < (s.length : Int)) (hj : JP W H false (TT s c)) {k : Nat} (hk : 40001 ≤ k) : tile_Fits k s (GP W H c) = some true := by
  have hl := valid_len hv
  rw [fits_eq (pform_of dW dH wh cel) hv (by omega) hk, (join_iff dW.1 dH.1 false).2 hj]
theorem grid_self {p : Pattern} {W H : Nat} (f : GForm p W H) : p = GP W H (cellG p W) := by
  obtain ⟨a, b, l⟩ := p
  have h1 := f.w; have h2 := f.h; have h3 := f.len
  simp only at h1 h2 h3
  subst h1 h2
  unfold GP
  congr 1
  exact grid_ext h3 fun y x _ _ => rfl
theorem tmodn {a : Int} (h0 : 0 ≤ a) (n : Nat) : Int.tmod a (n : Int) = ((a.toNat % n : Nat) : Int) := by
  obtain ⟨m, rfl⟩ : ∃ m : Nat, a = m := ⟨a.toNat, by omega⟩
  rfl
theorem law01_TileTurned_pure : ∀ (p0 : List Tile) (p1 : Pattern) (p2 : Int) (p3 : Int) (p4 : Int) (p5 : Int), ((∀ x ∈ p0, ok_Tile x) ∧ p0.length ≤ Go.maxLen) → (ok_Pattern p1) → ((Go.Lit.int .u8 p2).wf = true) → ((Go.Lit.int .u8 p3).wf = true) → ((Go.Lit.int .u8 p4).wf = true) → ((Go.Lit.int .u8 p5).wf = true) → ∃ k, law01_TileTurned k p0 p1 p2 p3 p4 p5 = some true := by
  intro set p x y w h hs _ hx hy hw hh
  have hx := wf8' hx; have hy := wf8' hy; have hw := wf8' hw; have hh := wf8' hh
  have hl : set.length ≤ 9223372036854775807 := hs.2
  refine ⟨100000, ?_⟩
  have aw : law01_awake 100000 = some true := awake01_ok 99900
  unfold law01_TileTurned
  by_cases hb : (decide ((set.length : Int) > 200) || decide ((p.Cells.length : Int) > 5000)) = true
  · rw [if_pos hb]; simp only [Option.bind_some, if_true, aw]
  rw [if_neg hb]
  have hF : ref01_Fits 100000 set p = (if validT set = true then (ref01_Of 100000 set p) else some false) := by
    unfold ref01_Fits
    rw [valid01 set (by omega) hl, Option.bind_some]
    cases validT set
    · rfl
    · simp only [if_true]
      cases ref01_Of 100000 set p <;> rfl
  rw [hF]
  cases hv : validT set
  · simp [aw]
  rw [if_pos rfl]
  cases hi : inB set p
  · rw [of01_no hi (by omega)]; simp [aw]
  obtain ⟨W, H, f⟩ := inB_iff hi
  rw [of01_eq f (by omega)]
  cases hall : ((List.range (H * W)).all fun i => rightB set p W H false i && upB set p W H false i)
  · simp [aw]
  -- a pattern of the set
  have hp := grid_self f.g
  have hcel : ∀ y x, y < H → x < W → 0 ≤ cellG p W y x ∧ cellG p W y x < (set.length : Int) := fun y x hy hx => f.cel _ (place_lt hx hy)
  obtain ⟨c, hc⟩ : ∃ c, cellG p W = c := ⟨_, rfl⟩
  rw [hc] at hp hcel
  subst hp
  have hdW := f.dW; have hdH := f.dH; have hwh := f.wh
  have hlen : H * W ≤ 5000 := by
    have : (GP W H c).Cells.length = H * W := grid_len W H c
    rw [this] at hb
    simp only [Bool.or_eq_true, decide_eq_true_eq] at hb; omega
  obtain ⟨whole, hwd⟩ : ∃ b, ((List.range (H * W)).all fun i => rightB set (GP W H c) W H true i && upB set (GP W H c) W H true i) = b := ⟨_, rfl⟩
  have g : GOK set W H c whole := ⟨hv, hdW, hdH, hwh, hcel, (join_iff hdW.1 hdH.1 false).1 hall, by rw [← hwd]; exact join_iff hdW.1 hdH.1 true⟩
  rw [(g.tf (k := 100000) (by omega)).2]
  have e : (GP W H c).Width = (W : Int) ∧ (GP W H c).Height = (H : Int) ∧ (GP W H c).Cells = grid W H c := ⟨rfl, rfl, rfl⟩
  have L0 : law01_TileTurned.l0 100000 set W H (grid W H c) 0 whole = some (.inr (set, (W : Int), (H : Int), grid W H c)) := by
    have a0 := tstep0 g 0 (by omega) (k := 99999) (by omega)
    have a1 := tstep0 g.turn 1 (by omega) (k := 99998) (by omega)
    have a2 := tstep0 g.turn.turn 2 (by omega) (k := 99997) (by omega)
    have a3 := tstep0 g.turn.turn.turn 3 (by omega) (k := 99996) (by omega)
    have a0 : law01_TileTurned.l0 100000 set W H (grid W H c) 0 whole = _ := a0
    rw [a0, a1, a2, a3, turn4]
    rw [show (100000 : Nat) = 99999 + 1 from rfl] at *
    rw [show (99996 : Nat) = 99995 + 1 from rfl, law01_TileTurned.l0, if_neg (by simp)]
    rw [grid_congr (g' := c) (fun y x hy hx => by
      rw [show H - 1 - (H - 1 - y) = y by omega, show W - 1 - (W - 1 - x) = x by omega])]
  have L1 : law01_TileTurned.l1 100000 set W H (grid W H c) 0 whole = some (.inr (set, (W : Int), (H : Int), grid W H c)) := by
    have a0 := tstep1 g 0 (by omega) (k := 99999) (by omega)
    have a1 := tstep1 g.mir.up 1 (by omega) (k := 99998) (by omega)
    have a0 : law01_TileTurned.l1 100000 set W H (grid W H c) 0 whole = _ := a0
    rw [a0, a1, mirup2]
    rw [show (99998 : Nat) = 99997 + 1 from rfl, law01_TileTurned.l1, if_neg (by simp)]
    rw [grid_congr (g' := c) (fun y x hy hx => by
      rw [show H - 1 - (H - 1 - y) = y by omega, show W - 1 - (W - 1 - x) = x by omega])]
  have S1 : ref01_SameSet 100000 set set = some true := sameset_refl set (by have := valid_len hv; omega) _ (by have := valid_len hv; omega)
  have S2 : ref01_SamePattern 100000 (GP W H c) (GP W H c) = some true := samePat _ (by rw [e.2.2, grid_len]; omega) (by rw [e.2.2, grid_len]; omega)
  -- the part that is cut out
  obtain ⟨i, hid⟩ : ∃ i, x.toNat % W = i := ⟨_, rfl⟩
  obtain ⟨j, hjd⟩ : ∃ j, y.toNat % H = j := ⟨_, rfl⟩
  have hiW : i < W := hid ▸ Nat.mod_lt _ (by omega)
  have hjH : j < H := hjd ▸ Nat.mod_lt _ (by omega)
  have ex : Int.tmod (w64 x) (W : Int) = (i : Int) := by rw [w64_id (by omega) (by omega), tmodn hx.1, hid]
  have ey : Int.tmod (w64 y) (H : Int) = (j : Int) := by rw [w64_id (by omega) (by omega), tmodn hy.1, hjd]
  have ew : w64 ((W : Int) - (i : Int)) = ((W - i : Nat) : Int) := by rw [w64_id (by omega) (by omega)]; omega
  have eh : w64 ((H : Int) - (j : Int)) = ((H - j : Nat) : Int) := by rw [w64_id (by omega) (by omega)]; omega
  obtain ⟨a, had⟩ : ∃ a, w.toNat % (W - i) = a := ⟨_, rfl⟩
  obtain ⟨b, hbd⟩ : ∃ b, h.toNat % (H - j) = b := ⟨_, rfl⟩
  have haW : a < W - i := had ▸ Nat.mod_lt _ (by omega)
  have hbH : b < H - j := hbd ▸ Nat.mod_lt _ (by omega)
  have ea : w64 (1 + Int.tmod (w64 w) ((W - i : Nat) : Int)) = ((a + 1 : Nat) : Int) := by rw [w64_id (n := w) (by omega) (by omega), tmodn hw.1, had, w64_id (by omega) (by omega)]; omega
  have eb : w64 (1 + Int.tmod (w64 h) ((H - j : Nat) : Int)) = ((b + 1 : Nat) : Int) := by rw [w64_id (n := h) (by omega) (by omega), tmodn hh.1, hbd, w64_id (by omega) (by omega)]; omega
  have hm : (b + 1) * (a + 1) ≤ H * W := Nat.mul_le_mul (by omega) (by omega)
  have F := GP.g (c := c) hdW hdH hwh
  have K1 := cutG F (x := i) (y := j) (w := a + 1) (h := b + 1) (by omega) (by omega) (by omega) (by omega) (k := 100000) (by omega)
  rw [grid_congr (g' := fun q r => c (j + q) (i + r)) (fun y x hy hx => GP.cell c (by omega) (by omega))] at K1
  have K2 : tile_Fits 100000 set (GP (a + 1) (b + 1) fun q r => c (j + q) (i + r)) = some true :=
    fitsG hv (by omega) (by omega) (by omega) (fun y x hy hx => hcel _ _ (by omega) (by omega)) (g.fits.part (x := i) (y := j) (w := a + 1) (h' := b + 1) (by omega) (by omega)) (by omega)
  -- the repeated pattern
  obtain ⟨u, rfl⟩ : ∃ u : Nat, w = u := ⟨w.toNat, by omega⟩
  obtain ⟨v, rfl⟩ : ∃ v : Nat, h = v := ⟨h.toNat, by omega⟩
  have eu : w64 (1 + w64 (u : Int)) = ((u + 1 : Nat) : Int) := by rw [w64_id (n := (u : Int)) (by omega) (by omega), w64_id (by omega) (by omega)]; omega
  have ev : w64 (1 + w64 (v : Int)) = ((v + 1 : Nat) : Int) := by rw [w64_id (n := (v : Int)) (by omega) (by omega), w64_id (by omega) (by omega)]; omega
  have R : ∃ t : Pattern × Int, tile_Repeat 100000 (GP W H c) ((u + 1 : Nat) : Int) ((v + 1 : Nat) : Int) = some t ∧ (t.2 = 4 ∨ t.2 = 0 ∧ (whole = true → tile_Fits 100000 set t.1 = some true) ∧ ∃ z, tile_Fits 100000 set t.1 = some z) := by
    have hm2 : (v + 1) * (u + 1) ≤ 256 * 256 := Nat.mul_le_mul (by omega) (by omega)
    by_cases h3 : (v + 1) * (u + 1) ≤ 40000
    · refine ⟨_, repG F (by omega) (by omega) h3 (by omega), .inr ⟨rfl, ?_, ?_⟩⟩
      · intro hwt
        have := g.round.1 hwt
        have ff := fitsG (c := fun q r => c (q % H) (r % W)) hv (show 1 ≤ u + 1 ∧ u + 1 ≤ 40000 by omega) (show 1 ≤ v + 1 ∧ v + 1 ≤ 40000 by omega) h3 (fun y x hy hx => hcel _ _ (Nat.mod_lt _ (by omega)) (Nat.mod_lt _ (by omega))) (this.rep hdW.1 hdH.1 (u + 1) (v + 1)) (k := 100000) (by omega)
        simp only
        rw [grid_congr (g' := fun q r => c (q % H) (r % W)) (fun y x hy hx => GP.cell c (Nat.mod_lt _ (by omega)) (Nat.mod_lt _ (by omega)))]
        exact ff
      · simp only
        rw [grid_congr (g' := fun q r => c (q % H) (r % W)) (fun y x hy hx => GP.cell c (Nat.mod_lt _ (by omega)) (Nat.mod_lt _ (by omega)))]
        exact ⟨_, fits_eq (pform_of (c := fun q r => c (q % H) (r % W)) (show 1 ≤ u + 1 ∧ u + 1 ≤ 40000 by omega) (show 1 ≤ v + 1 ∧ v + 1 ≤ 40000 by omega) h3 (fun y x hy hx => hcel _ _ (Nat.mod_lt _ (by omega)) (Nat.mod_lt _ (by omega)))) hv hl (by omega)⟩
    · refine ⟨(⟨0, 0, []⟩, 4), ?_, .inl rfl⟩
      have e9 : (((u + 1 : Nat) : Int)) * ((v + 1 : Nat) : Int) = (((v + 1) * (u + 1) : Nat) : Int) := by rw [Int.natCast_mul, Int.mul_comm]
      unfold tile_Repeat
      rw [form_eq, F.form, Option.bind_some, if_neg (by simp), if_neg (by simp; omega), e9, w64_id (n := (((v + 1) * (u + 1) : Nat) : Int)) (by omega) (by omega), if_pos (by simp only [Bool.or_eq_true, decide_eq_true_eq]; omega)]
  obtain ⟨t, ht, hR⟩ := R
  have e5 : (Pattern.mk W H (grid W H c)) = GP W H c := rfl
  have e6 : (Pattern.mk ((a + 1 : Nat) : Int) ((b + 1 : Nat) : Int) (grid (a + 1) (b + 1) fun q r => c (j + q) (i + r))) = GP (a + 1) (b + 1) fun q r => c (j + q) (i + r) := rfl
  simp only [Option.bind_some, Bool.not_true, Bool.false_eq_true, if_false, e.1, e.2.1, e.2.2, L0, sumb, S1, e5, S2, L1]
  rw [if_pos (by omega), if_pos (by omega)]
  simp only [ex, ey, ew, eh]
  rw [if_pos (by omega), if_pos (by omega), ea, eb, K1]
  simp only [Option.bind_some, e6, K2, eu, ev, ht, bne_self_eq_false, Bool.not_true, Bool.false_eq_true, if_false]
  rcases hR with h4 | ⟨h0, hw1, z, hz⟩
  · rw [h4]; simp [aw]
  · rw [h0, hz]
    cases whole
    · simp [aw]
    · have := hw1 rfl
      rw [hz] at this
      injection this with this
      subst this
      simp [aw]
end Gp
