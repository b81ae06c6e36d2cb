/- The plain law: what the functions compute answers as the statement says. -/
import Derived.Test.YtfehljifahnipaaGreatDoorGp
import Derived.KernelRfl
import Derived.Lib.Mul64
set_option linter.unusedVariables false
set_option linter.unusedSimpArgs false
namespace Gq
open Go Gw Gp
/-! ### numbers and lists -/
theorem w64_id {n : Int} (h0 : -9223372036854775808 ≤ n) (h1 : n ≤ 9223372036854775807) : w64 n = n := by
  show IntKind.i64.wrap n = n
  have e : IntKind.i64.wrap n = if (true && decide (n % 18446744073709551616 ≥ 9223372036854775808)) = true then n % 18446744073709551616 - 18446744073709551616 else n % 18446744073709551616 := rfl
  rw [e]
  simp only [Bool.true_and, decide_eq_true_eq]
  split <;> omega
theorem rdD_nat {α : Type} (xs : List α) (i : Nat) (d : α) : rdD xs (i : Int) d = xs.getD i d := by simp [rdD]
theorem rdD_get {α : Type} {xs : List α} {i : Nat} (h : i < xs.length) (d : α) : rdD xs (i : Int) d = xs[i] := by
  simp [rdD, List.getD, List.getElem?_eq_getElem h]
def firstS {α β : Type} (g : Nat → α → Option β) : Nat → List α → Option β
  | _, [] => none
  | i, a :: r => match g i a with
    | some b => some b
    | none => firstS g (i + 1) r
def fin {β : Type} : Option β → Sum β Unit
  | some b => .inl b
  | none => .inr ()
theorem scan {α β : Type} {F : Nat → Int → Option (Sum β Unit)} {xs : List α} {g : Nat → α → Option β}
    (hF : ∀ k (i : Nat), i ≤ xs.length → F (k + 1) (i : Int) = if h : i < xs.length then (match g i xs[i] with | some b => some (.inl b) | none => F k ((i + 1 : Nat) : Int)) else some (.inr ())) :
    ∀ (n k i : Nat), i + n = xs.length → n < k → F k (i : Int) = some (fin (firstS g i (xs.drop i)))
  | 0, k, i, hi, hk => by
    obtain ⟨k, rfl⟩ : ∃ m, k = m + 1 := ⟨k - 1, by omega⟩
    have hi : i = xs.length := by omega
    subst hi
    rw [hF k _ (Nat.le_refl _), dif_neg (Nat.lt_irrefl _), List.drop_length]; rfl
  | n + 1, k, i, hi, hk => by
    obtain ⟨k, rfl⟩ : ∃ m, k = m + 1 := ⟨k - 1, by omega⟩
    have hlt : i < xs.length := by omega
    rw [hF k i (by omega), dif_pos hlt, List.drop_eq_getElem_cons hlt, firstS]
    cases hg : g i xs[i] with
    | some b => rfl
    | none => exact scan hF n k (i + 1) (by omega) (by omega)
end Gq
set_option linter.unusedVariables false
set_option linter.unusedSimpArgs false
namespace Gq
end Gq
namespace Gp
open Gw Gq
/-! ### the tiles of a machine -/
def hd (Y q s : Nat) : Int := ((Y + q * Y + s : Nat) : Int)
end Gp
set_option linter.unusedVariables false
set_option linter.unusedSimpArgs false
namespace Gq
end Gq
namespace Gp
open Gw Gq
/-! ### where the tiles of a machine lie -/
end Gp
set_option linter.unusedVariables false
set_option linter.unusedSimpArgs false
namespace Gp
open Gw Gq
/-! ### the tile that shows a cell of a step -/
theorem Tile.ext' {a b : Tile} (h1 : a.N = b.N) (h2 : a.E = b.E) (h3 : a.S = b.S) (h4 : a.W = b.W) : a = b := by
  cases a; cases b; simp only at h1 h2 h3 h4; subst h1 h2 h3 h4; rfl
end Gp
set_option linter.unusedVariables false
set_option linter.unusedSimpArgs false
namespace Gq
theorem loop_all {σ ρ τ : Type} {F : Nat → Int → σ → Option (Sum ρ τ)} {S : Nat → σ} {b : Nat → Bool} {n K : Nat} {r : ρ} {e : τ} (hs : ∀ k i, K ≤ k → i < n → F (k + 1) (i : Int) (S i) = if b i = true then F k ((i + 1 : Nat) : Int) (S (i + 1)) else some (.inl r)) (he : ∀ k, F (k + 1) (n : Int) (S n) = some (.inr e)) :
    ∀ k, n + K < k → F k 0 (S 0) = some (if (List.range n).all b = true then .inr e else .inl r) := by
  have key : ∀ d i k, i + d = n → d + K < k → F k (i : Int) (S i) = some (if (List.range' i d).all b = true then .inr e else .inl r) := by
    intro d
    induction d with
    | zero =>
      intro i k hi hk
      obtain ⟨k, rfl⟩ : ∃ m, k = m + 1 := ⟨k - 1, by omega⟩
      have : i = n := by omega
      subst this; rw [he]; rfl
    | succ d ih =>
      intro i k hi hk
      obtain ⟨k, rfl⟩ : ∃ m, k = m + 1 := ⟨k - 1, by omega⟩
      rw [hs k i (by omega) (by omega), List.range'_succ, List.all_cons]
      cases hb : b i
      · rfl
      · rw [if_pos rfl, ih (i + 1) k (by omega) (by omega)]; rfl
  intro k hk
  rw [List.range_eq_range']
  exact key n 0 k (by omega) hk
theorem firstS_ge' {α : Type} {p : α → Bool} : ∀ (xs : List α) (i : Nat), (match firstS (fun i a => if p a = true then none else some (i : Int)) i xs with
    | some x => decide (0 ≤ x)
    | none => false) = !xs.all p
  | [], i => rfl
  | a :: r, i => by
    rw [firstS]
    cases h : p a
    · simp [h]
    · simp only [if_true, List.all_cons, h, Bool.true_and]
      exact firstS_ge' r (i + 1)
end Gq
namespace Gp
open Gw Gq
/-! ### sets of tiles and patterns -/
def inCol (c : Int) : Bool := decide (0 ≤ c ∧ c < 1000)
def colB (t : Tile) : Bool := inCol t.N && inCol t.E && inCol t.S && inCol t.W
theorem idx_col (xs : List Int) (hl : xs.length ≤ 1000000) (k : Nat) (hk : xs.length < k) :
    slices_IndexFunc_int_int_with_tile_colour_1.l0 k 0 xs = some (fin (firstS (fun i a => if inCol a = true then none else some (i : Int)) 0 xs)) := by
  have := scan (F := fun k i => slices_IndexFunc_int_int_with_tile_colour_1.l0 k i xs) (xs := xs) (g := fun i a => if inCol a = true then none else some (i : Int)) (fun k i hi => by
    show slices_IndexFunc_int_int_with_tile_colour_1.l0 (k + 1) i xs = _
    rw [slices_IndexFunc_int_int_with_tile_colour_1.l0]
    by_cases h : i < xs.length
    · have h' : (i : Int) < (xs.length : Int) := by omega
      have h2 : 0 ≤ (i : Int) ∧ (i : Int) < (xs.length : Int) := by omega
      rw [dif_pos h, if_pos (by simpa using h'), if_pos h2, rdD_get h, tile_colour_1, w64_id (by omega) (by omega)]
      by_cases hb : 0 ≤ xs[i] ∧ xs[i] < 1000
      · have h3 : ¬ (xs[i] < 0 ∨ 1000 ≤ xs[i]) := by omega
        simp [inCol, hb]
        intro hh; exact absurd hh h3
      · have h3 : (xs[i] < 0 ∨ 1000 ≤ xs[i]) := by omega
        simp [inCol, hb, h3]
    · have h' : ¬ (i : Int) < (xs.length : Int) := by omega
      rw [dif_neg h, if_neg (by simpa using h')]) xs.length k 0 (by simp) hk
  simpa using this
theorem colour_eq (xs : List Int) (hl : xs.length ≤ 1000000) (k : Nat) (hk : xs.length < k) : tile_colour k xs = some (xs.all inCol) := by
  unfold tile_colour slices_ContainsFunc_int_int_with_tile_colour_1 slices_IndexFunc_int_int_with_tile_colour_1
  rw [idx_col xs hl k hk]
  have := firstS_ge' (p := inCol) xs 0
  cases hf : firstS (fun i a => if inCol a = true then none else some (i : Int)) 0 xs <;> rw [hf] at this <;> cases ha : xs.all inCol <;> rw [ha] at this <;> simp [fin, sumb] at this ⊢
  · exact this
  · exact this
def metS (set : List Tile) (i : Nat) : List (Tile × Bool) := (set.take i).map fun t => (t, true)
theorem mget_met (t : Tile) : ∀ l : List Tile, mget t false (l.map fun t => (t, true)) = decide (t ∈ l)
  | [] => rfl
  | a :: r => by
    simp only [List.map_cons, mget]
    by_cases h : t = a
    · simp [h]
    · rw [if_neg h, mget_met t r]; simp [h]
theorem mput_met (t : Tile) : ∀ l : List Tile, t ∉ l → mput t true (l.map fun t => (t, true)) = (l.map fun t => (t, true)) ++ [(t, true)]
  | [], _ => rfl
  | a :: r, h => by
    simp only [List.mem_cons, not_or] at h
    simp only [List.map_cons, mput, if_neg h.1, mput_met t r h.2, List.cons_append]
def newB (set : List Tile) (i : Nat) : Bool := !decide (set.getD i z_Tile ∈ set.take i) && colB (set.getD i z_Tile)
def validT (set : List Tile) : Bool := decide (set.length ≤ 1000) && (List.range set.length).all (newB set)
theorem tile_valid (set : List Tile) {k : Nat} (hk : 1006 ≤ k) (hl : set.length ≤ 9223372036854775807) : tile_Valid k set = some (validT set) := by
  unfold tile_Valid validT
  by_cases hb : set.length ≤ 1000
  · rw [if_neg (by simp; omega)]
    have := loop_all (F := fun k i (m : List (Tile × Bool)) => tile_Valid.l0 k m i set) (S := metS set) (b := newB set) (n := set.length) (K := 5) (r := false) (e := ()) (fun k i hk hi => by
      show tile_Valid.l0 (k + 1) (metS set i) i set = if newB set i = true then tile_Valid.l0 k (metS set (i + 1)) ((i + 1 : Nat) : Int) set else _
      rw [tile_Valid.l0, if_pos (by simpa using hi), if_pos (by omega), rdD_nat, metS, mget_met]
      have ht : set.getD i z_Tile = set[i] := by simp [List.getElem?_eq_getElem hi]
      unfold newB
      by_cases hm : set.getD i z_Tile ∈ set.take i
      · rw [if_pos (by simpa using hm), show decide (set.getD i z_Tile ∈ set.take i) = true from decide_eq_true hm]; rfl
      · rw [if_neg (by simpa using hm), colour_eq _ (by simp) k (by simp; omega), Option.bind_some, Option.bind_some]
        have hc : ([(set.getD i z_Tile).N, (set.getD i z_Tile).E, (set.getD i z_Tile).S, (set.getD i z_Tile).W].all inCol) = colB (set.getD i z_Tile) := by simp [colB, Bool.and_assoc]
        rw [hc]
        cases hcb : colB (set.getD i z_Tile)
        · simp
        · rw [mput_met _ _ hm, w64_id (by omega) (by omega)]
          simp only [hm, Bool.not_true, Bool.false_eq_true, if_false, decide_false, Bool.not_false, Bool.and_self, if_true]
          unfold metS
          rw [List.take_add_one, List.map_append, List.getElem?_eq_getElem hi, ht]; rfl) (fun k => by
      show tile_Valid.l0 (k + 1) (metS set set.length) set.length set = _
      rw [tile_Valid.l0, if_neg (by simp)]) k (by omega)
    have h0 : tile_Valid.l0 k [] 0 set = some (if (List.range set.length).all (newB set) = true then .inr () else .inl false) := this
    rw [h0]
    cases (List.range set.length).all (newB set) <;> simp [sumb, hb]
  · rw [if_pos (by simp; omega)]; simp [hb]
end Gp
set_option linter.unusedVariables false
set_option linter.unusedSimpArgs false
namespace Gp
open Gw Gq
/-! ### the pictures are patterns of the tiles -/
end Gp
set_option linter.unusedVariables false
set_option linter.unusedSimpArgs false
namespace Gq
end Gq
namespace Gp
open Gw Gq
/-! ### the patterns of the statements' own reference -/
end Gp
set_option linter.unusedVariables false
set_option linter.unusedSimpArgs false
namespace Gp
open Gw Gq
end Gp
set_option linter.unusedVariables false
set_option linter.unusedSimpArgs false
namespace Gp
open Gw Gq
/-! ### a torus, repeated -/
end Gp
set_option linter.unusedVariables false
set_option linter.unusedSimpArgs false
namespace Gp
open Gw Gq
/-! ### the first layer's reference -/
theorem colour01 (c : Int) : ref01_colour c = some (inCol c) := by
  unfold ref01_colour inCol
  by_cases h : 0 ≤ c ∧ c < 1000
  · simp [h]
  · rw [decide_eq_false h]
    congr 1
    cases h1 : decide (c ≥ 0)
    · rfl
    · have : ¬ c < 1000 := fun h2 => h ⟨by simpa using h1, h2⟩
      simp [this]
theorem index01 {set : List Tile} (hl : set.length ≤ 1000000) (t : Tile) {k : Nat} (hk : set.length < k) : ∃ r : Int, ref01_Index k set t = some r ∧ decide (r ≥ 0) = decide (t ∈ set) := by
  have := scan (F := fun k i => ref01_Index.l0 k i set t) (xs := set) (g := fun i a => if a = t then some (i : Int) else none) (fun k i hi => by
    show ref01_Index.l0 (k + 1) i set t = _
    rw [ref01_Index.l0]
    by_cases h : i < set.length
    · have h2 : 0 ≤ (i : Int) ∧ (i : Int) < (set.length : Int) := by omega
      rw [dif_pos h, if_pos (by simpa using h), if_pos h2, rdD_get h, w64_id (by omega) (by omega)]
      by_cases hb : set[i] = t
      · subst hb; simp
      · have : ((set[i].N == t.N) && ((set[i].E == t.E) && ((set[i].S == t.S) && (set[i].W == t.W)))) = false := by
          cases hc : ((set[i].N == t.N) && ((set[i].E == t.E) && ((set[i].S == t.S) && (set[i].W == t.W))))
          · rfl
          · simp only [Bool.and_eq_true, beq_iff_eq] at hc
            exact absurd (Tile.ext' hc.1 hc.2.1 hc.2.2.1 hc.2.2.2) hb
        rw [this, if_neg hb]; rfl
    · rw [dif_neg h, if_neg (by simpa using h)]) set.length k 0 (by simp) hk
  have h0 : ref01_Index.l0 k 0 set t = some (fin (firstS (fun i a => if a = t then some (i : Int) else none) 0 (set.drop 0))) := this
  rw [List.drop_zero] at h0
  have key : ∀ (l : List Tile) (i : Nat), match firstS (fun i a => if a = t then some (i : Int) else none) i l with
      | some x => decide (x ≥ 0) = decide (t ∈ l)
      | none => decide (t ∈ l) = false := by
    intro l
    induction l with
    | nil => intro i; simp [firstS]
    | cons a r ih =>
      intro i
      rw [firstS]
      by_cases ha : a = t
      · subst ha; simp
      · have hne : ¬ t = a := fun e => ha e.symm
        rw [if_neg ha]
        have := ih (i + 1)
        cases hf : firstS (fun i a => if a = t then some (i : Int) else none) (i + 1) r with
        | none => rw [hf] at this; simp only [List.mem_cons, hne, false_or]; exact this
        | some x => rw [hf] at this; simp only [List.mem_cons, hne, false_or]; exact this
  unfold ref01_Index
  rw [h0]
  have hk2 := key set 0
  cases hf : firstS (fun i a => if a = t then some (i : Int) else none) 0 set with
  | none => rw [hf] at hk2; exact ⟨-1, rfl, by rw [hk2]; rfl⟩
  | some x => rw [hf] at hk2; exact ⟨x, rfl, hk2⟩
theorem valid01 (set : List Tile) {k : Nat} (hk : 2002 < k) (hl : set.length ≤ 9223372036854775807) : ref01_Valid k set = some (validT set) := by
  unfold ref01_Valid validT
  by_cases hb : set.length ≤ 1000
  · rw [if_neg (by simp; omega)]
    have := loop_all (F := fun k i (_ : Unit) => ref01_Valid.l0 k i set) (S := fun _ => ()) (b := newB set) (n := set.length) (K := 1001) (r := false) (e := ()) (fun k i hk hi => by
      show ref01_Valid.l0 (k + 1) i set = if newB set i = true then ref01_Valid.l0 k ((i + 1 : Nat) : Int) set else _
      have hcut : cut set (0 : Int) (i : Int) = set.take i := by unfold cut; simp
      obtain ⟨r, hr, hd⟩ := index01 (set := set.take i) (by rw [List.length_take]; omega) (set.getD i z_Tile) (k := k) (by rw [List.length_take]; omega)
      rw [ref01_Valid.l0, if_pos (by simpa using hi), if_pos (by omega)]
      simp only [rdD_nat, colour01, Option.bind_some, hcut]
      rw [if_pos (⟨by omega, by omega, by omega⟩ : 0 ≤ (0 : Int) ∧ (0 : Int) ≤ (i : Int) ∧ (i : Int) ≤ (set.length : Int)), hr, w64_id (by omega) (by omega)]
      simp only [Option.bind_some, hd]
      unfold newB colB
      cases inCol (set.getD i z_Tile).N
      · simp
      · cases inCol (set.getD i z_Tile).E
        · simp
        · cases inCol (set.getD i z_Tile).S
          · simp
          · cases inCol (set.getD i z_Tile).W
            · simp
            · cases decide (set.getD i z_Tile ∈ set.take i) <;> simp) (fun k => by
      show ref01_Valid.l0 (k + 1) set.length set = _
      rw [ref01_Valid.l0, if_neg (by simp)]) k (by omega)
    have h0 : ref01_Valid.l0 k 0 set = some (if (List.range set.length).all (newB set) = true then .inr () else .inl false) := this
    rw [h0]
    cases (List.range set.length).all (newB set) <;> simp [sumb, hb]
  · rw [if_pos (by simp; omega)]; simp [hb]
end Gp
set_option linter.unusedVariables false
set_option linter.unusedSimpArgs false
namespace Gp
open Gw Gq
/-! ### grids: lists of rows -/
def grid (w h : Nat) (g : Nat → Nat → Int) : List Int := (List.range h).flatMap fun y => (List.range w).map (g y)
/-! ### stores into a list -/
def sets (l : List Int) (q : List (Nat × Int)) : List Int := q.foldl (fun l p => l.set p.1 p.2) l
/-! ### patterns that have the form of one -/
/-! ### the changed patterns -/
end Gp
set_option linter.unusedVariables false
set_option linter.unusedSimpArgs false
namespace Gp
open Gw Gq
/-! ### cuts -/
/-! ### patterns, repeated -/
/-! ### what is equal -/
end Gp
set_option linter.unusedVariables false
set_option linter.unusedSimpArgs false
namespace Gp
open Gw Gq
/-! ### changed sets -/
structure Chg (f : Tile → Tile) : Prop where
  inj : ∀ a b, f a = f b → a = b
  col : ∀ t, colB (f t) = colB t
theorem getD_map (f : Tile → Tile) {s : List Tile} {i : Nat} (h : i < s.length) : (s.map f).getD i z_Tile = f (s.getD i z_Tile) := by simp [List.getElem?_eq_getElem h]
theorem Chg.valid {f : Tile → Tile} (c : Chg f) {s : List Tile} (hv : validT s = true) : validT (s.map f) = true := by
  unfold validT at hv ⊢
  simp only [Bool.and_eq_true, decide_eq_true_eq, List.all_eq_true, List.mem_range, List.length_map] at hv ⊢
  refine ⟨hv.1, fun i hi => ?_⟩
  have := hv.2 i hi
  unfold newB at this ⊢
  rw [getD_map f hi, ← List.map_take, c.col]
  simp only [Bool.and_eq_true, Bool.not_eq_true', decide_eq_false_iff_not] at this ⊢
  refine ⟨fun hm => this.1 ?_, this.2⟩
  obtain ⟨a, ha, he⟩ := List.mem_map.1 hm
  rw [← c.inj _ _ he]; exact ha
/-! ### how the tiles of a grid meet -/
def JP (W H : Nat) (round : Bool) (T : Nat → Nat → Tile) : Prop :=
  (∀ y x, y < H → x < W → (x + 1 < W ∨ round = true) → (T y x).E = (T y ((x + 1) % W)).W) ∧ (∀ y x, y < H → x < W → (y + 1 < H ∨ round = true) → (T y x).N = (T ((y + 1) % H) x).S)
theorem JP.congr {W H : Nat} {round : Bool} {T T' : Nat → Nat → Tile} (he : ∀ y x, y < H → x < W → T y x = T' y x) (h : JP W H round T) : JP W H round T' := by
  refine ⟨fun y x hy hx hr => ?_, fun y x hy hx hr => ?_⟩
  · rw [← he y x hy hx, ← he y _ hy (Nat.mod_lt _ (by omega))]; exact h.1 y x hy hx hr
  · rw [← he y x hy hx, ← he _ x (Nat.mod_lt _ (by omega)) hx]; exact h.2 y x hy hx hr
def TT (s : List Tile) (c : Nat → Nat → Int) (y x : Nat) : Tile := s.getD (c y x).toNat z_Tile
structure GOK (s : List Tile) (W H : Nat) (c : Nat → Nat → Int) (whole : Bool) : Prop where
  valid : validT s = true
  dW : 1 ≤ W ∧ W ≤ 40000
  dH : 1 ≤ H ∧ H ≤ 40000
  wh : H * W ≤ 40000
  cel : ∀ y x, y < H → x < W → 0 ≤ c y x ∧ c y x < (s.length : Int)
  fits : JP W H false (TT s c)
  round : whole = true ↔ JP W H true (TT s c)
theorem GOK.congr {s : List Tile} {W H : Nat} {c c' : Nat → Nat → Int} {whole : Bool} (g : GOK s W H c whole) (he : ∀ y x, y < H → x < W → c y x = c' y x) : GOK s W H c' whole := by
  have ht : ∀ y x, y < H → x < W → TT s c y x = TT s c' y x := fun y x hy hx => by unfold TT; rw [he y x hy hx]
  exact ⟨g.valid, g.dW, g.dH, g.wh, fun y x hy hx => by rw [← he y x hy hx]; exact g.cel y x hy hx, g.fits.congr ht, g.round.trans ⟨fun h => h.congr ht, fun h => h.congr (fun y x hy hx => (ht y x hy hx).symm)⟩⟩
/-! mirrored -/
end Gp
set_option linter.unusedVariables false
set_option linter.unusedSimpArgs false
namespace Gp
open Gw Gq
theorem JP.part {W H : Nat} {T : Nat → Nat → Tile} (h : JP W H false T) {x y w h' : Nat} (hx : x + w ≤ W) (hy : y + h' ≤ H) : JP w h' false (fun j i => T (y + j) (x + i)) := by
  refine ⟨fun j i hj hi hr => ?_, fun j i hj hi hr => ?_⟩
  · have h1 : i + 1 < w := by simpa using hr
    have := h.1 (y + j) (x + i) (by omega) (by omega) (.inl (by omega))
    rw [Nat.mod_eq_of_lt (show x + i + 1 < W by omega)] at this
    rw [Nat.mod_eq_of_lt h1]; exact this
  · have h1 : j + 1 < h' := by simpa using hr
    have := h.2 (y + j) (x + i) (by omega) (by omega) (.inl (by omega))
    rw [Nat.mod_eq_of_lt (show y + j + 1 < H by omega)] at this
    rw [Nat.mod_eq_of_lt h1]; exact this
end Gp
set_option linter.unusedVariables false
set_option linter.unusedSimpArgs false
namespace Gq
end Gq
namespace Gp
open Gw Gq
/-! ### words, rows -/
/-! few -/
end Gp
set_option linter.unusedVariables false
set_option linter.unusedSimpArgs false
namespace Gq
open Gw
end Gq
namespace Gp
open Gw Gq
/-! ### rectangles that are filled -/
end Gp
set_option linter.unusedVariables false
set_option linter.unusedSimpArgs false
namespace Gp
open Gw Gq
/-! the whole function -/
end Gp
set_option linter.unusedVariables false
set_option linter.unusedSimpArgs false
namespace Gp
open Gw Gq
/-! ### rows and patterns -/
end Gp
set_option linter.unusedVariables false
set_option linter.unusedSimpArgs false
namespace Gp
open Gw Gq
/-! ### squares -/
end Gp
set_option linter.unusedVariables false
set_option linter.unusedSimpArgs false
namespace Gp
open Gw Gq
/-! ### tori -/
end Gp
set_option linter.unusedVariables false
set_option linter.unusedSimpArgs false
namespace Gp
open Gw Gq
/-! tori and patterns -/
end Gp
set_option linter.unusedVariables false
set_option linter.unusedSimpArgs false
namespace Gp
open Gw Gq
end Gp
set_option linter.unusedVariables false
set_option linter.unusedSimpArgs false
namespace Gp
open Gw Gq
/-! ### three tiles: a torus, or no square of side four -/
/-! masks of a set -/
end Gp
set_option linter.unusedVariables false
set_option linter.unusedSimpArgs false
namespace Gp
open Gw Gq
/-! ### the least torus -/
/-! ### the decision -/
end Gp
set_option linter.unusedVariables false
set_option linter.unusedSimpArgs false
namespace Gp
open Gw Gq
/-! ### fillings as grids; turned and renamed sets -/
end Gp
set_option linter.unusedVariables false
set_option linter.unusedSimpArgs false
namespace Gp
open Gw Gq
/-! ### a set with one tile more -/
end Gp
set_option linter.unusedVariables false
set_option linter.unusedSimpArgs false
namespace Gp
open Gw Gq
end Gp
set_option linter.unusedVariables false
set_option linter.unusedSimpArgs false
namespace KD
end KD
namespace CR
end CR

namespace Gp
open Gw Gq
theorem mulN' (a b : Nat) : (a : Int) * (b : Int) = ((a * b : Nat) : Int) := (Int.natCast_mul a b).symm
end Gp
set_option linter.unusedVariables false
set_option linter.unusedSimpArgs false
namespace Gp
open Gw Gq
end Gp
set_option linter.unusedVariables false
set_option linter.unusedSimpArgs false
namespace Gp
open Gw Gq
end Gp
set_option linter.unusedVariables false
set_option linter.unusedSimpArgs false
namespace Gp
open Gw Gq
end Gp
set_option linter.unusedVariables false
set_option linter.unusedSimpArgs false
namespace Gp
open Gw Gq
def okF (f : Frac) : Prop := (-1000000 ≤ f.Num ∧ f.Num ≤ 1000000) ∧ 1 ≤ f.Den ∧ f.Den ≤ 1000000
def balD (f s w n e : Frac) : Int := f.Num * s.Num * w.Den * n.Den * e.Den + w.Num * f.Den * s.Den * n.Den * e.Den - n.Num * f.Den * s.Den * w.Den * e.Den - e.Num * f.Den * s.Den * w.Den * n.Den
end Gp
set_option linter.unusedVariables false
set_option linter.unusedSimpArgs false
namespace Gp
open Gw Gq
end Gp
set_option linter.unusedVariables false
set_option linter.unusedSimpArgs false
namespace Gp
open Gw Gq
end Gp
set_option linter.unusedVariables false
set_option linter.unusedSimpArgs false
namespace Gp
open Gw Gq
abbrev fr (l : List Frac) (i : Int) : Frac := rdD l i z_Frac
abbrev tw (s : List Tile) (i : Nat) : Tile := rdD s (i : Int) z_Tile
theorem tw_get {s : List Tile} {i : Nat} (h : i < s.length) : tw s i = s[i] := rdD_get h _
theorem fr_mem {l : List Frac} {i : Int} (h : 0 ≤ i ∧ i < (l.length : Int)) : fr l i ∈ l := by
  obtain ⟨n, rfl⟩ : ∃ n : Nat, i = n := ⟨i.toNat, by omega⟩
  have hn : n < l.length := by omega
  show rdD l (n : Int) z_Frac ∈ l
  rw [rdD_get hn]; exact List.getElem_mem hn
structure OKW (s : List Tile) (w : Weights) : Prop where
  len : s.length ≤ 1000
  N : ∀ i, i < s.length → 0 ≤ (tw s i).N ∧ (tw s i).N < (w.Values.length : Int)
  S : ∀ i, i < s.length → 0 ≤ (tw s i).S ∧ (tw s i).S < (w.Values.length : Int)
  E : ∀ i, i < s.length → 0 ≤ (tw s i).E ∧ (tw s i).E < (w.Carries.length : Int)
  W : ∀ i, i < s.length → 0 ≤ (tw s i).W ∧ (tw s i).W < (w.Carries.length : Int)
  fl : w.Factors.length = s.length
  okv : ∀ f ∈ w.Values, okF f ∧ 0 ≤ f.Num
  okc : ∀ f ∈ w.Carries, okF f
  okf : ∀ f ∈ w.Factors, okF f ∧ 0 < f.Num
def balT (s : List Tile) (w : Weights) (i : Nat) : Bool := decide (balD (fr w.Factors i) (fr w.Values (tw s i).S) (fr w.Carries (tw s i).W) (fr w.Values (tw s i).N) (fr w.Carries (tw s i).E) = 0)
theorem OKW.f {s : List Tile} {w : Weights} (h : OKW s w) {i : Nat} (hi : i < s.length) : okF (fr w.Factors i) ∧ 0 < (fr w.Factors i).Num := h.okf _ (fr_mem (by rw [h.fl]; omega))
/-! factors that are equal -/
def eqF (a b : Frac) : Bool := decide (a.Num * b.Den = b.Num * a.Den)
end Gp
set_option linter.unusedVariables false
set_option linter.unusedSimpArgs false
namespace Gp
open Gw Gq
end Gp
set_option linter.unusedVariables false
set_option linter.unusedSimpArgs false
namespace Gp
open Gw Gq
def pairsF (s : List Tile) (w : Weights) : Prop := ∀ i j, i < s.length → j < s.length → (tw s i).E = (tw s j).W → eqF (fr w.Factors i) (fr w.Factors j) = true
end Gp
set_option linter.unusedVariables false
set_option linter.unusedSimpArgs false
namespace Gp
open Gw Gq
end Gp
set_option linter.unusedVariables false
set_option linter.unusedSimpArgs false
namespace Gp
open Gw Gq
def noCyc (l : List Tile) : Prop := ∀ C : List Tile, (∀ t ∈ C, t ∈ l) → (∀ t ∈ C, ∃ u ∈ C, u.W = t.E) → C = []
def zeroT (s : List Tile) (w : Weights) : List Tile := s.filter fun t => (fr w.Values t.S).Num == 0
end Gp
set_option linter.unusedVariables false
set_option linter.unusedSimpArgs false
namespace Gp
open Gw Gq
theorem w64_nat {n : Nat} (h : n ≤ 1000000000) : w64 (n : Int) = n := w64_id (by omega) (by omega)
theorem gcd_l0 : ∀ (k a b : Nat), b < k → weight_gcd.l0 k (a : Int) (b : Int) = some ((Nat.gcd a b : Nat) : Int)
  | 0, a, b, h => by omega
  | k + 1, a, b, h => by
    rw [weight_gcd.l0]
    by_cases h0 : b = 0
    · subst h0
      rw [if_neg (by simp), Nat.gcd_zero_right]
    · rw [if_pos (by simpa using h0), if_pos (by omega)]
      show weight_gcd.l0 k (b : Int) ((a % b : Nat) : Int) = _
      have := Nat.mod_lt a (show 0 < b by omega)
      rw [gcd_l0 k b (a % b) (by omega), Nat.gcd_comm a b, Nat.gcd_rec b a, Nat.gcd_comm (a % b) b]
theorem gcd_eq {a b k : Nat} (h : b < k) : weight_gcd k (a : Int) (b : Int) = some ((Nat.gcd a b : Nat) : Int) := by
  unfold weight_gcd
  rw [gcd_l0 k a b h]; rfl
end Gp
set_option linter.unusedVariables false
set_option linter.unusedSimpArgs false
namespace Gp
open Gw Gq
def pr (w : Weights) (i : Nat) : Nat := (rdD w.Primes (i : Int) 0).toNat
def lg (w : Weights) (i : Nat) : Int := rdD w.Logs (i : Int) 0
structure OKP (w : Weights) : Prop where
  len : w.Primes.length ≤ 12
  ll : w.Logs.length = w.Primes.length
  p : ∀ i, i < w.Primes.length → rdD w.Primes (i : Int) 0 = (pr w i : Int) ∧ 2 ≤ pr w i ∧ pr w i ≤ 1000000
  l : ∀ i, i < w.Primes.length → -1000 ≤ lg w i ∧ lg w i ≤ 1000
def powL (w : Weights) : Nat → List Nat → Nat
  | _, [] => 1
  | i, a :: r => pr w i ^ a * powL w (i + 1) r
def logL (w : Weights) : Nat → List Nat → Int
  | _, [] => 0
  | i, a :: r => (a : Int) * lg w i + logL w (i + 1) r
def factP (w : Weights) (f : Frac) : Prop := ∃ xa xb : List Nat, xa.length = w.Primes.length ∧ xb.length = w.Primes.length ∧ f.Num * ((powL w 0 xb : Nat) : Int) = f.Den * ((powL w 0 xa : Nat) : Int) ∧ 0 < logL w 0 xa - logL w 0 xb
end Gp
set_option linter.unusedVariables false
set_option linter.unusedSimpArgs false
namespace Gp
open Gw Gq
end Gp
set_option linter.unusedVariables false
set_option linter.unusedSimpArgs false
namespace Gp
open Gw Gq
def isP (p : Nat) : Prop := ∀ d, 2 ≤ d → d * d ≤ p → ¬ d ∣ p
theorem prime_l0 {p : Nat} (hp : p ≤ 1000000) : ∀ (k d : Nat), 2 ≤ d → d ≤ 1001 → 1002 - d < k → (∀ e, 2 ≤ e → e < d → ¬ e ∣ p) → weight_prime.l0 k (d : Int) (p : Int) = some (.inl false) ∨ (weight_prime.l0 k (d : Int) (p : Int) = some (.inr ()) ∧ isP p)
  | 0, d, h2, h3, hk, h => by omega
  | k + 1, d, h2, h3, hk, h => by
    have hdd : d * d ≤ 1001 * 1001 := Nat.mul_le_mul h3 h3
    have hw : w64 ((d : Int) * (d : Int)) = ((d * d : Nat) : Int) := by rw [← Int.natCast_mul]; exact w64_nat (by omega)
    have hwd : w64 ((d : Int) + 1) = ((d + 1 : Nat) : Int) := by rw [w64_id (by omega) (by omega)]; rfl
    have em : Int.tmod (p : Int) (d : Int) = ((p % d : Nat) : Int) := rfl
    rw [weight_prime.l0, hw, hwd, em]
    by_cases hle : d * d ≤ p
    · rw [if_pos (by rw [decide_eq_true_eq]; omega), if_pos (by omega)]
      by_cases hm : p % d = 0
      · left; rw [if_pos (by rw [hm]; rfl)]
      · rw [if_neg (by rw [beq_iff_eq]; omega)]
        have hd1 : d ≤ 1000 := by
          rcases Nat.lt_or_ge 1000 d with h5 | h5
          · exfalso
            have : 1001 * 1001 ≤ d * d := Nat.mul_le_mul h5 h5
            omega
          · exact h5
        exact prime_l0 hp k (d + 1) (by omega) (by omega) (by omega) fun e h5 h6 h7 => by
          by_cases e2 : e = d
          · subst e2; exact hm (Nat.mod_eq_zero_of_dvd h7)
          · exact h e h5 (by omega) h7
    · rw [if_neg (by rw [decide_eq_true_eq]; omega)]
      refine .inr ⟨rfl, fun e h5 h6 => h e h5 ?_⟩
      rcases Nat.lt_or_ge e d with h7 | h7
      · exact h7
      · exfalso
        have : d * d ≤ e * e := Nat.mul_le_mul h7 h7
        omega
theorem coprime_of {p q : Nat} (hp : isP p) (hq : isP q) (p2 : 2 ≤ p) (q2 : 2 ≤ q) (hne : p ≠ q) : Nat.Coprime p q := by
  have key : ∀ p, isP p → 2 ≤ p → ∀ d, 2 ≤ d → d ∣ p → d = p := fun p hp p2 d hd h => by
    obtain ⟨e, rfl⟩ := h
    by_cases he : e ≤ 1
    · have : e = 1 := by
        rcases Nat.eq_zero_or_pos e with h0 | h0
        · subst h0; omega
        · omega
      rw [this, Nat.mul_one]
    · exfalso
      rcases Nat.le_total d e with h1 | h1
      · exact hp d hd (Nat.mul_le_mul_left _ h1) ⟨e, rfl⟩
      · exact hp e (by omega) (by rw [Nat.mul_comm d e]; exact Nat.mul_le_mul_left _ h1) ⟨d, Nat.mul_comm d e⟩
  have hg : Nat.gcd p q = 1 ∨ 2 ≤ Nat.gcd p q := by
    have : 0 < Nat.gcd p q := Nat.gcd_pos_of_pos_left _ (by omega)
    omega
  rcases hg with h | h
  · exact h
  · exact absurd ((key p hp p2 _ h (Nat.gcd_dvd_left p q)).symm.trans (key q hq q2 _ h (Nat.gcd_dvd_right p q))) hne
end Gp
set_option linter.unusedVariables false
set_option linter.unusedSimpArgs false
namespace Gp
open Gw Gq
def okI (w : Weights) (i : Nat) : Prop := ∃ p : Nat, rdD w.Primes (i : Int) 0 = (p : Int) ∧ (2 ≤ p ∧ p ≤ 1000000) ∧ isP p ∧ (∀ j, j < i → rdD w.Primes (j : Int) 0 ≠ (p : Int)) ∧ (-1000 ≤ lg w i ∧ lg w i ≤ 1000)
end Gp
set_option linter.unusedVariables false
set_option linter.unusedSimpArgs false
namespace Gp
open Gw Gq
theorem vT_iff (s : List Tile) : validT s = true ↔ s.length ≤ 1000 ∧ s.Nodup ∧ ∀ t ∈ s, colB t = true := by
  unfold validT
  simp only [Bool.and_eq_true, decide_eq_true_eq, List.all_eq_true, List.mem_range]
  have hg : ∀ i (h : i < s.length), s.getD i z_Tile = s[i] := fun i h => by simp [List.getElem?_eq_getElem h]
  refine and_congr_right fun _ => ⟨fun h => ⟨?_, fun t ht => ?_⟩, fun h i hi => ?_⟩
  · rw [List.Nodup, List.pairwise_iff_getElem]
    intro i j hi hj hij he
    have := h j hj
    unfold newB at this
    rw [hg j hj, Bool.and_eq_true, Bool.not_eq_true', decide_eq_false_iff_not] at this
    exact this.1 (by rw [← he]; exact List.mem_take_iff_getElem.2 ⟨i, by omega, rfl⟩)
  · obtain ⟨i, hi, rfl⟩ := List.getElem_of_mem ht
    have := h i hi
    unfold newB at this
    rw [hg i hi, Bool.and_eq_true] at this
    exact this.2
  · unfold newB
    rw [hg i hi, h.2 _ (List.getElem_mem hi), Bool.and_true, Bool.not_eq_true', decide_eq_false_iff_not]
    intro hm
    obtain ⟨j, hj, he⟩ := List.mem_take_iff_getElem.1 hm
    have := h.1
    rw [List.Nodup, List.pairwise_iff_getElem] at this
    exact this j i (by omega) hi (by omega) he
theorem vT_col {s : List Tile} (hv : validT s = true) : ∀ i, i < s.length → (0 ≤ (tw s i).N ∧ (tw s i).N < 1000) ∧ (0 ≤ (tw s i).E ∧ (tw s i).E < 1000) ∧ (0 ≤ (tw s i).S ∧ (tw s i).S < 1000) ∧ (0 ≤ (tw s i).W ∧ (tw s i).W < 1000) := fun i hi => by
  have := ((vT_iff s).1 hv).2.2 s[i] (List.getElem_mem hi)
  rw [tw_get hi]
  unfold colB inCol at this
  simp only [Bool.and_eq_true, decide_eq_true_eq] at this
  omega
def coP (w : Weights) : Prop := ∀ i j, i < w.Primes.length → j < w.Primes.length → i ≠ j → Nat.Coprime (pr w i) (pr w j)
theorem okI_all {w : Weights} (hl : w.Primes.length ≤ 12) (hll : w.Logs.length = w.Primes.length) (h : ∀ j, j < w.Primes.length → okI w j) : OKP w ∧ coP w := by
  have hpr : ∀ i, i < w.Primes.length → ∀ p : Nat, rdD w.Primes (i : Int) 0 = (p : Int) → pr w i = p := fun i _ p hp => by unfold pr; rw [hp]; rfl
  refine ⟨⟨hl, hll, fun i hi => ?_, fun i hi => ?_⟩, fun i j hi hj hne => ?_⟩
  · obtain ⟨p, h1, h2, _⟩ := h i hi
    rw [hpr i hi p h1]
    exact ⟨h1, h2⟩
  · obtain ⟨p, _, _, _, _, h5⟩ := h i hi
    exact h5
  · obtain ⟨p, h1, h2, h3, h4, _⟩ := h i hi
    obtain ⟨q, g1, g2, g3, g4, _⟩ := h j hj
    rw [hpr i hi p h1, hpr j hj q g1]
    refine coprime_of h3 g3 h2.1 g2.1 fun e => ?_
    rcases Nat.lt_or_gt_of_ne hne with hlt | hlt
    · exact g4 i hlt (by rw [h1, e])
    · exact h4 j hlt (by rw [g1, ← e])
structure Checked (s : List Tile) (w : Weights) : Prop where
  valid : validT s = true
  ok : OKW s w
  op : OKP w
  co : coP w
  bal : (List.range s.length).all (balT s w) = true
  pairs : pairsF s w
  cyc : noCyc (zeroT s w)
  fact : ∀ f ∈ w.Factors, factP w f
end Gp
set_option linter.unusedVariables false
set_option linter.unusedSimpArgs false
namespace Gp
open Gw Gq
def vl (f : Frac) : Rat := (f.Num : Rat) / (f.Den : Rat)
/-! powers of numbers without common divisors -/
end Gp
set_option linter.unusedVariables false
set_option linter.unusedSimpArgs false
namespace Gp
open Gw Gq
end Gp
set_option linter.unusedVariables false
set_option linter.unusedSimpArgs false
namespace Gp
open Gw Gq
end Gp
set_option linter.unusedVariables false
set_option linter.unusedSimpArgs false
namespace Gp
open Gw Gq
theorem awake06_ok (k : Nat) : law06_awake (k + 400) = some true := by kernel_rfl
theorem wide06 (s : List Tile) (w : Weights) : ∃ b, law06_wide s w = some b := ⟨_, rfl⟩
end Gp
set_option linter.unusedVariables false
set_option linter.unusedSimpArgs false
namespace Gp
open Gw Gq
def mxV (v : Int) (t : Tile) : Int := maxI (maxI v (t.N + 1)) (t.S + 1)
def mxH (v : Int) (t : Tile) : Int := maxI (maxI v (t.E + 1)) (t.W + 1)
def cV (s : List Tile) : Int := s.foldl mxV 0
def cH (s : List Tile) : Int := s.foldl mxH 0
theorem need2_l0 {s : List Tile} (hl : s.length ≤ 1000) (hc : ∀ i, i < s.length → (0 ≤ (tw s i).N ∧ (tw s i).N < 1000) ∧ (0 ≤ (tw s i).E ∧ (tw s i).E < 1000) ∧ (0 ≤ (tw s i).S ∧ (tw s i).S < 1000) ∧ (0 ≤ (tw s i).W ∧ (tw s i).W < 1000)) : ∀ (d x k : Nat) (v c : Int), x + d = s.length → d < k →
    weight_needed.l0 k v c x s = some ((s.drop x).foldl mxV v, (s.drop x).foldl mxH c) ∧ ref06_Colours.l0 k v c x s = some ((s.drop x).foldl mxV v, (s.drop x).foldl mxH c)
  | 0, x, k, v, c, e, hk => by
    obtain ⟨k, rfl⟩ : ∃ m, k = m + 1 := ⟨k - 1, by omega⟩
    rw [List.drop_of_length_le (by omega), weight_needed.l0, ref06_Colours.l0, if_neg (by simp; omega), if_neg (by simp; omega)]
    exact ⟨rfl, rfl⟩
  | d + 1, x, k, v, c, e, hk => by
    obtain ⟨k, rfl⟩ : ∃ m, k = m + 1 := ⟨k - 1, by omega⟩
    have hx : x < s.length := by omega
    have hwx : w64 ((x : Int) + 1) = ((x + 1 : Nat) : Int) := by rw [w64_id (by omega) (by omega)]; rfl
    obtain ⟨⟨n0, n1⟩, ⟨q0, q1⟩, ⟨s0, s1⟩, ⟨w0, w1⟩⟩ := hc x hx
    have wn : w64 ((rdD s (x : Int) z_Tile).N + 1) = (tw s x).N + 1 := w64_id (n := (tw s x).N + 1) (by omega) (by omega)
    have ws : w64 ((rdD s (x : Int) z_Tile).S + 1) = (tw s x).S + 1 := w64_id (n := (tw s x).S + 1) (by omega) (by omega)
    have we : w64 ((rdD s (x : Int) z_Tile).E + 1) = (tw s x).E + 1 := w64_id (n := (tw s x).E + 1) (by omega) (by omega)
    have ww : w64 ((rdD s (x : Int) z_Tile).W + 1) = (tw s x).W + 1 := w64_id (n := (tw s x).W + 1) (by omega) (by omega)
    rw [weight_needed.l0, ref06_Colours.l0, if_pos (by simpa using hx), if_pos (by omega), if_pos (by simpa using hx), if_pos (by omega), hwx, wn, ws, we, ww, tw_get hx, List.drop_eq_getElem_cons hx, List.foldl_cons, List.foldl_cons]
    exact need2_l0 hl hc d (x + 1) k _ _ (by omega) (by omega)
theorem need2_eq {s : List Tile} (hv : validT s = true) {k : Nat} (hk : 2000 < k) : weight_needed k s = some (cV s, cH s) ∧ ref06_Colours k s = some (cV s, cH s) := by
  have hl : s.length ≤ 1000 := ((vT_iff s).1 hv).1
  have h := need2_l0 hl (vT_col hv) s.length 0 k 0 0 (by omega) (by omega)
  rw [List.drop_zero] at h
  have h1 : weight_needed.l0 k 0 0 0 s = some (cV s, cH s) := h.1
  have h2 : ref06_Colours.l0 k 0 0 0 s = some (cV s, cH s) := h.2
  unfold weight_needed ref06_Colours
  rw [h1, h2]; exact ⟨rfl, rfl⟩
theorem foldV_ge : ∀ (l : List Tile) (v : Int), v ≤ l.foldl mxV v ∧ ∀ t ∈ l, t.N < l.foldl mxV v ∧ t.S < l.foldl mxV v
  | [], v => ⟨Int.le_refl _, fun t h => by cases h⟩
  | t :: l, v => by
    obtain ⟨h1, h2⟩ := foldV_ge l (mxV v t)
    have h3 : v ≤ mxV v t ∧ t.N < mxV v t ∧ t.S < mxV v t := by unfold mxV maxI; omega
    rw [List.foldl_cons]
    refine ⟨by omega, fun u hu => ?_⟩
    rcases List.mem_cons.1 hu with rfl | hu
    · omega
    · exact h2 u hu
theorem foldH_ge : ∀ (l : List Tile) (v : Int), v ≤ l.foldl mxH v ∧ ∀ t ∈ l, t.E < l.foldl mxH v ∧ t.W < l.foldl mxH v
  | [], v => ⟨Int.le_refl _, fun t h => by cases h⟩
  | t :: l, v => by
    obtain ⟨h1, h2⟩ := foldH_ge l (mxH v t)
    have h3 : v ≤ mxH v t ∧ t.E < mxH v t ∧ t.W < mxH v t := by unfold mxH maxI; omega
    rw [List.foldl_cons]
    refine ⟨by omega, fun u hu => ?_⟩
    rcases List.mem_cons.1 hu with rfl | hu
    · omega
    · exact h2 u hu
theorem foldV_le {B : Int} : ∀ (l : List Tile) (v : Int), (∀ t ∈ l, t.N < B ∧ t.S < B) → v ≤ B → l.foldl mxV v ≤ B
  | [], v, _, h => h
  | t :: l, v, hl, h => by
    have := hl t List.mem_cons_self
    exact foldV_le l _ (fun u hu => hl u (List.mem_cons_of_mem _ hu)) (by unfold mxV maxI; omega)
theorem foldH_le {B : Int} : ∀ (l : List Tile) (v : Int), (∀ t ∈ l, t.E < B ∧ t.W < B) → v ≤ B → l.foldl mxH v ≤ B
  | [], v, _, h => h
  | t :: l, v, hl, h => by
    have := hl t List.mem_cons_self
    exact foldH_le l _ (fun u hu => hl u (List.mem_cons_of_mem _ hu)) (by unfold mxH maxI; omega)
def okFb (f : Frac) : Bool := (((decide (f.Den ≥ 1)) && (decide (f.Den ≤ 1000000))) && (decide (f.Num ≥ (-1000000)))) && (decide (f.Num ≤ 1000000))
theorem okFb_iff (f : Frac) : okFb f = true ↔ okF f := by
  unfold okFb okF
  simp only [Bool.and_eq_true, decide_eq_true_eq]
  omega
theorem all2 (l0 : Nat → Int → List Frac → Option (Sum Int Unit)) (q : Nat → Frac → Option Bool) (heq : ∀ k x l, l0 (k + 1) x l = if (decide (x < (l.length : Int))) = true then (if 0 ≤ x ∧ x < (l.length : Int) then ((q k (rdD l x z_Frac)).bind fun t => if t = true then (some (.inl x)) else (l0 k (w64 (x + 1)) l)) else none) else (some (.inr ())))
    (l : List Frac) (hl : l.length ≤ 100000) (K : Nat) (p : Frac → Bool) (hq : ∀ k, K < k → ∀ f ∈ l, q k f = some (!p f)) : ∀ (d x k : Nat), x + d = l.length → d + K + 1 < k →
    (∃ r : Nat, l0 k x l = some (.inl (r : Int)) ∧ (l.drop x).all p = false) ∨ (l0 k x l = some (.inr ()) ∧ (l.drop x).all p = true)
  | 0, x, k, e, hk => by
    obtain ⟨k, rfl⟩ : ∃ m, k = m + 1 := ⟨k - 1, by omega⟩
    right
    rw [List.drop_of_length_le (by omega)]
    exact ⟨by rw [heq, if_neg (by simp; omega)], rfl⟩
  | d + 1, x, k, e, hk => by
    obtain ⟨k, rfl⟩ : ∃ m, k = m + 1 := ⟨k - 1, by omega⟩
    have hx : x < l.length := by omega
    have hwx : w64 ((x : Int) + 1) = ((x + 1 : Nat) : Int) := by rw [w64_id (by omega) (by omega)]; rfl
    rw [heq, if_pos (by simpa using hx), if_pos (by omega), rdD_get hx, hq k (by omega) l[x] (List.getElem_mem hx), Option.bind_some, hwx, List.drop_eq_getElem_cons hx, List.all_cons]
    cases p l[x]
    · exact .inl ⟨x, by rw [if_pos (by rfl)], by rw [Bool.false_and]⟩
    · rw [if_neg (by decide), Bool.true_and]
      exact all2 l0 q heq l hl K p hq d (x + 1) k (by omega) (by omega)
theorem allfv2 {l : List Frac} (hl : l.length ≤ 100000) {k : Nat} (hk : l.length + 10 < k) : weight_all_with_weight_fraction_valid k l = some (l.all okFb) := by
  have h := all2 slices_IndexFunc_api_Frac_api_Frac_with_weight_all_1_of_weight_fraction_valid.l0 (fun _ f => weight_all_1_of_weight_fraction_valid f) (fun _ _ _ => rfl) l hl 0 okFb (fun k _ f hf => rfl) l.length 0 k (by omega) (by omega)
  rw [List.drop_zero] at h
  have h : (∃ r : Nat, slices_IndexFunc_api_Frac_api_Frac_with_weight_all_1_of_weight_fraction_valid.l0 k 0 l = some (.inl (r : Int)) ∧ _) ∨ (slices_IndexFunc_api_Frac_api_Frac_with_weight_all_1_of_weight_fraction_valid.l0 k 0 l = some (.inr ()) ∧ _) := h
  unfold weight_all_with_weight_fraction_valid slices_ContainsFunc_api_Frac_api_Frac_with_weight_all_1_of_weight_fraction_valid slices_IndexFunc_api_Frac_api_Frac_with_weight_all_1_of_weight_fraction_valid
  rcases h with ⟨r, h, h2⟩ | ⟨h, h2⟩
  · rw [h, h2]
    show some (!decide ((r : Int) ≥ 0)) = _
    rw [decide_eq_true (by omega)]; rfl
  · rw [h, h2]; rfl
theorem allv12 {l : List Frac} (hl : l.length ≤ 100000) {k : Nat} (hk : l.length + 10 < k) : weight_all_with_weight_Valid_1 k l = some (l.all fun f => decide (f.Num ≥ 0)) := by
  have h := all2 slices_IndexFunc_api_Frac_api_Frac_with_weight_all_1_of_weight_Valid_1.l0 (fun _ f => weight_all_1_of_weight_Valid_1 f) (fun _ _ _ => rfl) l hl 0 (fun f => decide (f.Num ≥ 0)) (fun k _ f hf => rfl) l.length 0 k (by omega) (by omega)
  rw [List.drop_zero] at h
  have h : (∃ r : Nat, slices_IndexFunc_api_Frac_api_Frac_with_weight_all_1_of_weight_Valid_1.l0 k 0 l = some (.inl (r : Int)) ∧ _) ∨ (slices_IndexFunc_api_Frac_api_Frac_with_weight_all_1_of_weight_Valid_1.l0 k 0 l = some (.inr ()) ∧ _) := h
  unfold weight_all_with_weight_Valid_1 slices_ContainsFunc_api_Frac_api_Frac_with_weight_all_1_of_weight_Valid_1 slices_IndexFunc_api_Frac_api_Frac_with_weight_all_1_of_weight_Valid_1
  rcases h with ⟨r, h, h2⟩ | ⟨h, h2⟩
  · rw [h, h2]
    show some (!decide ((r : Int) ≥ 0)) = _
    rw [decide_eq_true (by omega)]; rfl
  · rw [h, h2]; rfl
theorem allv22 {l : List Frac} (hl : l.length ≤ 100000) {k : Nat} (hk : l.length + 10 < k) : weight_all_with_weight_Valid_2 k l = some (l.all fun f => decide (f.Num > 0)) := by
  have h := all2 slices_IndexFunc_api_Frac_api_Frac_with_weight_all_1_of_weight_Valid_2.l0 (fun _ f => weight_all_1_of_weight_Valid_2 f) (fun _ _ _ => rfl) l hl 0 (fun f => decide (f.Num > 0)) (fun k _ f hf => rfl) l.length 0 k (by omega) (by omega)
  rw [List.drop_zero] at h
  have h : (∃ r : Nat, slices_IndexFunc_api_Frac_api_Frac_with_weight_all_1_of_weight_Valid_2.l0 k 0 l = some (.inl (r : Int)) ∧ _) ∨ (slices_IndexFunc_api_Frac_api_Frac_with_weight_all_1_of_weight_Valid_2.l0 k 0 l = some (.inr ()) ∧ _) := h
  unfold weight_all_with_weight_Valid_2 slices_ContainsFunc_api_Frac_api_Frac_with_weight_all_1_of_weight_Valid_2 slices_IndexFunc_api_Frac_api_Frac_with_weight_all_1_of_weight_Valid_2
  rcases h with ⟨r, h, h2⟩ | ⟨h, h2⟩
  · rw [h, h2]
    show some (!decide ((r : Int) ≥ 0)) = _
    rw [decide_eq_true (by omega)]; rfl
  · rw [h, h2]; rfl
def frP (m : Int) (f : Frac) : Bool := okFb f && !decide (f.Num < m)
theorem frac_l0 {l : List Frac} (hl : l.length ≤ 100000) (m : Int) : ∀ (d x k : Nat), x + d = l.length → d < k → ref06_fractions.l0 k x l (l.length : Int) m = if (l.drop x).all (frP m) = true then some (.inr ()) else some (.inl false)
  | 0, x, k, e, hk => by
    obtain ⟨k, rfl⟩ : ∃ m, k = m + 1 := ⟨k - 1, by omega⟩
    rw [List.drop_of_length_le (by omega), ref06_fractions.l0, if_neg (by simp; omega)]; rfl
  | d + 1, x, k, e, hk => by
    obtain ⟨k, rfl⟩ : ∃ m, k = m + 1 := ⟨k - 1, by omega⟩
    have hx : x < l.length := by omega
    have hwx : w64 ((x : Int) + 1) = ((x + 1 : Nat) : Int) := by rw [w64_id (by omega) (by omega)]; rfl
    rw [ref06_fractions.l0, if_pos (by simpa using hx), if_pos (by omega), rdD_get hx, hwx, List.drop_eq_getElem_cons hx, List.all_cons, frac_l0 hl m d (x + 1) k (by omega) (by omega)]
    show (if (!okFb l[x] || decide (l[x].Num < m)) = true then _ else _) = _
    unfold frP
    cases okFb l[x]
    · rfl
    · by_cases h : l[x].Num < m
      · rw [decide_eq_true h]; rfl
      · rw [decide_eq_false h]; rfl
theorem frac_eq {l : List Frac} {n : Int} (hn : n ≤ 100000) (m : Int) {k : Nat} (hk : 100000 < k) : ref06_fractions k l n m = some (decide ((l.length : Int) = n) && l.all (frP m)) := by
  unfold ref06_fractions
  by_cases h : (l.length : Int) = n
  · rw [if_neg (by simpa using h), decide_eq_true h, ← h]
    have h0 : ref06_fractions.l0 k 0 l (l.length : Int) m = _ := frac_l0 (l := l) (by omega) m l.length 0 k (by omega) (by omega)
    rw [h0, List.drop_zero]
    cases l.all (frP m) <;> rfl
  · rw [if_pos (by simpa using h), decide_eq_false h]; rfl
end Gp
set_option linter.unusedVariables false
set_option linter.unusedSimpArgs false
namespace Gp
open Gw Gq
theorem prime_no {p : Nat} (hp : p ≤ 1000000) : ∀ (k d : Nat), 2 ≤ d → d ≤ 1001 → 1002 - d < k → weight_prime.l0 k (d : Int) (p : Int) = some (.inl false) → ¬ isP p
  | 0, d, h2, h3, hk, h => by omega
  | k + 1, d, h2, h3, hk, h => by
    have hdd : d * d ≤ 1001 * 1001 := Nat.mul_le_mul h3 h3
    have hw : w64 ((d : Int) * (d : Int)) = ((d * d : Nat) : Int) := by rw [← Int.natCast_mul]; exact w64_nat (by omega)
    have hwd : w64 ((d : Int) + 1) = ((d + 1 : Nat) : Int) := by rw [w64_id (by omega) (by omega)]; rfl
    have em : Int.tmod (p : Int) (d : Int) = ((p % d : Nat) : Int) := rfl
    rw [weight_prime.l0, hw, hwd, em] at h
    by_cases hle : d * d ≤ p
    · rw [if_pos (by rw [decide_eq_true_eq]; omega), if_pos (by omega)] at h
      by_cases hm : p % d = 0
      · exact fun hP => hP d h2 hle (Nat.dvd_of_mod_eq_zero hm)
      · rw [if_neg (by rw [beq_iff_eq]; omega)] at h
        have hd1 : d ≤ 1000 := by
          rcases Nat.lt_or_ge 1000 d with h5 | h5
          · exfalso
            have : 1001 * 1001 ≤ d * d := Nat.mul_le_mul h5 h5
            omega
          · exact h5
        exact prime_no hp k (d + 1) (by omega) (by omega) (by omega) h
    · rw [if_neg (by rw [decide_eq_true_eq]; omega)] at h
      cases h
theorem prime_same : ∀ (k : Nat) (d p : Int), ref06_prime.l0 k d p = weight_prime.l0 k d p
  | 0, d, p => rfl
  | k + 1, d, p => by rw [ref06_prime.l0, weight_prime.l0, prime_same]
theorem prime2 {p : Nat} (h2 : 2 ≤ p) (hp : p ≤ 1000000) {k : Nat} (hk : 2000 < k) : ∃ b, weight_prime k (p : Int) = some b ∧ ref06_prime k (p : Int) = some b ∧ (b = true ↔ isP p) := by
  unfold weight_prime ref06_prime
  rw [prime_same, if_neg (by rw [Bool.or_eq_true, decide_eq_true_eq, decide_eq_true_eq]; omega)]
  rcases prime_l0 hp k 2 (by omega) (by omega) (by omega) (fun e h5 h6 => by omega) with h | ⟨h, h3⟩
  · have hn := prime_no hp k 2 (by omega) (by omega) (by omega) h
    have h : weight_prime.l0 k 2 (p : Int) = _ := h
    exact ⟨false, by rw [h]; rfl, by rw [h]; rfl, fun h => (by cases h), fun h => absurd h hn⟩
  · have h : weight_prime.l0 k 2 (p : Int) = _ := h
    refine ⟨true, ?_, by rw [h]; rfl, fun _ => h3, fun _ => rfl⟩
    rw [h]
    show some (decide ((p : Int) ≥ 2)) = _
    rw [decide_eq_true (by omega)]
theorem index2_l0 {l : List Int} (hl : l.length ≤ 100000) (p : Int) : ∀ (d x k : Nat), x + d = l.length → d < k → (∃ r : Nat, slices_Index_int_int.l0 k x l p = some (.inl (r : Int)) ∧ p ∈ l.drop x) ∨ (slices_Index_int_int.l0 k x l p = some (.inr ()) ∧ p ∉ l.drop x)
  | 0, x, k, e, hk => by
    obtain ⟨k, rfl⟩ : ∃ m, k = m + 1 := ⟨k - 1, by omega⟩
    refine .inr ⟨by rw [slices_Index_int_int.l0, if_neg (by simp; omega)], ?_⟩
    rw [List.drop_of_length_le (by omega)]
    exact List.not_mem_nil
  | d + 1, x, k, e, hk => by
    obtain ⟨k, rfl⟩ : ∃ m, k = m + 1 := ⟨k - 1, by omega⟩
    have hx : x < l.length := by omega
    have hwx : w64 ((x : Int) + 1) = ((x + 1 : Nat) : Int) := by rw [w64_id (by omega) (by omega)]; rfl
    rw [slices_Index_int_int.l0, if_pos (by simpa using hx), if_pos (by omega), rdD_get hx, hwx, List.drop_eq_getElem_cons hx]
    by_cases he : p = l[x]
    · exact .inl ⟨x, by rw [if_pos (by simpa using he)], by rw [he]; exact List.mem_cons_self⟩
    · rw [if_neg (by simpa using he)]
      rcases index2_l0 hl p d (x + 1) k (by omega) (by omega) with ⟨r, h1, h2⟩ | ⟨h1, h2⟩
      · exact .inl ⟨r, h1, List.mem_cons_of_mem _ h2⟩
      · refine .inr ⟨h1, fun hy => ?_⟩
        rcases List.mem_cons.1 hy with h | h
        · exact he h
        · exact h2 h
theorem contains2 {l : List Int} (hl : l.length ≤ 100000) (p : Int) {k : Nat} (hk : l.length < k) : slices_Contains_int_int k l p = some (decide (p ∈ l)) := by
  have h := index2_l0 hl p l.length 0 k (by omega) (by omega)
  rw [List.drop_zero] at h
  have h : (∃ r : Nat, slices_Index_int_int.l0 k 0 l p = some (.inl (r : Int)) ∧ _) ∨ (slices_Index_int_int.l0 k 0 l p = some (.inr ()) ∧ _) := h
  unfold slices_Contains_int_int slices_Index_int_int
  rcases h with ⟨r, h, h2⟩ | ⟨h, h2⟩
  · rw [h, decide_eq_true h2]
    show some (decide ((r : Int) ≥ 0)) = _
    rw [decide_eq_true (by omega)]
  · rw [h, decide_eq_false h2]; rfl
theorem mem_cut {l : List Int} {i : Nat} (hi : i ≤ l.length) (p : Int) : p ∈ cut l 0 (i : Int) ↔ ∃ j, j < i ∧ rdD l (j : Int) 0 = p := by
  unfold cut
  rw [show ((0 : Int).toNat) = 0 by rfl, List.drop_zero, Int.toNat_natCast, Nat.sub_zero, List.mem_take_iff_getElem]
  constructor
  · rintro ⟨j, hj, rfl⟩
    exact ⟨j, by omega, rdD_get (by omega) _⟩
  · rintro ⟨j, hj, rfl⟩
    exact ⟨j, by omega, (rdD_get (by omega) _).symm⟩
theorem okI_step {w : Weights} (hl : w.Primes.length ≤ 12) (hll : w.Logs.length = w.Primes.length) {i k : Nat} (hi : i < w.Primes.length) (hk : 3000 < k) :
    (okI w i ∧ weight_Valid.l0 (k + 1) i w = weight_Valid.l0 k ((i + 1 : Nat) : Int) w) ∨ (¬ okI w i ∧ weight_Valid.l0 (k + 1) i w = some (.inl false)) := by
  have hwi : w64 ((i : Int) + 1) = ((i + 1 : Nat) : Int) := by rw [w64_id (by omega) (by omega)]; rfl
  have hL : 0 ≤ (i : Int) ∧ (i : Int) < (w.Logs.length : Int) := by rw [hll]; omega
  have hc : 0 ≤ (0 : Int) ∧ (0 : Int) ≤ (i : Int) ∧ (i : Int) ≤ (w.Primes.length : Int) := by omega
  rw [weight_Valid.l0, if_pos (by simpa using hi), if_pos (by omega), hwi]
  simp only [if_pos hL, if_pos hc]
  by_cases hr : rdD w.Primes (i : Int) 0 < 2 ∨ rdD w.Primes (i : Int) 0 > 1000000
  · right
    refine ⟨?_, by rw [if_pos (by rw [Bool.or_eq_true, decide_eq_true_eq, decide_eq_true_eq]; exact hr)]; rfl⟩
    rintro ⟨p, h1, h2, _⟩
    omega
  · rw [if_neg (by rw [Bool.or_eq_true, decide_eq_true_eq, decide_eq_true_eq]; exact hr)]
    obtain ⟨p, hp⟩ : ∃ p : Nat, rdD w.Primes (i : Int) 0 = p := ⟨(rdD w.Primes (i : Int) 0).toNat, by omega⟩
    rw [hp] at hr ⊢
    obtain ⟨b, h1, _, h2⟩ := prime2 (p := p) (by omega) (by omega) (k := k) (by omega)
    have h3 := contains2 (l := cut w.Primes 0 (i : Int)) (by rw [cut_length (by omega) (by omega) (by omega)]; omega) (p : Int) (k := k) (by rw [cut_length (by omega) (by omega) (by omega)]; omega)
    have hm := mem_cut (l := w.Primes) (i := i) (by omega) (p : Int)
    have ho : ∀ P : Prop, (okI w i → P) ↔ (isP p → (∀ j, j < i → rdD w.Primes (j : Int) 0 ≠ (p : Int)) → (-1000 ≤ lg w i ∧ lg w i ≤ 1000) → P) := fun P => by
      constructor
      · intro f a b c
        exact f ⟨p, hp, by omega, a, b, c⟩
      · rintro f ⟨q, e1, e2, e3, e4, e5⟩
        have : q = p := by omega
        subst this
        exact f e3 e4 e5
    rw [h1, Option.bind_some, h3]
    cases b
    · right
      exact ⟨(ho False).2 fun a _ _ => (by have := h2.2 a; cases this), rfl⟩
    by_cases hx : (p : Int) ∈ cut w.Primes 0 (i : Int)
    · right
      refine ⟨(ho False).2 fun _ a _ => ?_, by rw [decide_eq_true hx]; rfl⟩
      obtain ⟨j, j1, j2⟩ := hm.1 hx
      exact a j j1 j2
    rw [decide_eq_false hx]
    by_cases hg : rdD w.Logs (i : Int) 0 < -1000
    · right
      refine ⟨(ho False).2 fun _ _ a => ?_, by rw [decide_eq_true hg]; rfl⟩
      have : -1000 ≤ rdD w.Logs (i : Int) 0 := a.1
      omega
    by_cases hg2 : rdD w.Logs (i : Int) 0 > 1000
    · right
      refine ⟨(ho False).2 fun _ _ a => ?_, by rw [decide_eq_false hg, decide_eq_true hg2]; rfl⟩
      have : rdD w.Logs (i : Int) 0 ≤ 1000 := a.2
      omega
    left
    rw [decide_eq_false hg, decide_eq_false hg2]
    refine ⟨⟨p, hp, by omega, h2.1 rfl, fun j hj he => hx (hm.2 ⟨j, hj, he⟩), by show -1000 ≤ rdD w.Logs (i : Int) 0 ∧ rdD w.Logs (i : Int) 0 ≤ 1000; omega⟩, rfl⟩
theorem ref_l1 {w : Weights} (hl : w.Primes.length ≤ 12) {i : Nat} (hi : i < w.Primes.length) : ∀ (d x k : Nat), x + d = i → d < k → (ref06_Valid.l1 k x w i = some (.inl false) ∧ ∃ j, x ≤ j ∧ j < i ∧ rdD w.Primes (j : Int) 0 = rdD w.Primes (i : Int) 0) ∨ (ref06_Valid.l1 k x w i = some (.inr ()) ∧ ∀ j, x ≤ j → j < i → rdD w.Primes (j : Int) 0 ≠ rdD w.Primes (i : Int) 0)
  | 0, x, k, e, hk => by
    obtain ⟨k, rfl⟩ : ∃ m, k = m + 1 := ⟨k - 1, by omega⟩
    exact .inr ⟨by rw [ref06_Valid.l1, if_neg (by simp; omega)], fun j h1 h2 => by omega⟩
  | d + 1, x, k, e, hk => by
    obtain ⟨k, rfl⟩ : ∃ m, k = m + 1 := ⟨k - 1, by omega⟩
    have hwx : w64 ((x : Int) + 1) = ((x + 1 : Nat) : Int) := by rw [w64_id (by omega) (by omega)]; rfl
    rw [ref06_Valid.l1, if_pos (by simp; omega), if_pos (by omega), hwx]
    by_cases he : rdD w.Primes (x : Int) 0 = rdD w.Primes (i : Int) 0
    · exact .inl ⟨by rw [if_pos (by simpa using he)], x, by omega, by omega, he⟩
    · rw [if_neg (by simpa using he)]
      rcases ref_l1 hl hi d (x + 1) k (by omega) (by omega) with ⟨h1, j, j1, j2, j3⟩ | ⟨h1, h2⟩
      · exact .inl ⟨h1, j, by omega, j2, j3⟩
      · refine .inr ⟨h1, fun j j1 j2 => ?_⟩
        by_cases hj : j = x
        · subst hj; exact he
        · exact h2 j (by omega) j2
theorem okI_ref {w : Weights} (hl : w.Primes.length ≤ 12) (hll : w.Logs.length = w.Primes.length) {i k : Nat} (hi : i < w.Primes.length) (hk : 3000 < k) :
    (okI w i ∧ ref06_Valid.l0 (k + 1) i w = ref06_Valid.l0 k ((i + 1 : Nat) : Int) w) ∨ (¬ okI w i ∧ ref06_Valid.l0 (k + 1) i w = some (.inl false)) := by
  have hwi : w64 ((i : Int) + 1) = ((i + 1 : Nat) : Int) := by rw [w64_id (by omega) (by omega)]; rfl
  have hL : 0 ≤ (i : Int) ∧ (i : Int) < (w.Logs.length : Int) := by rw [hll]; omega
  rw [ref06_Valid.l0, if_pos (by simpa using hi), if_pos (by omega), hwi]
  simp only [if_pos hL]
  by_cases hr : rdD w.Primes (i : Int) 0 < 2 ∨ rdD w.Primes (i : Int) 0 > 1000000
  · right
    refine ⟨?_, ?_⟩
    · rintro ⟨p, h1, h2, _⟩
      omega
    · have : ref06_prime k (rdD w.Primes (i : Int) 0) = some false := by
        unfold ref06_prime
        rw [if_pos (by rw [Bool.or_eq_true, decide_eq_true_eq, decide_eq_true_eq]; exact hr)]
      rw [this]; rfl
  · obtain ⟨p, hp⟩ : ∃ p : Nat, rdD w.Primes (i : Int) 0 = p := ⟨(rdD w.Primes (i : Int) 0).toNat, by omega⟩
    have l1 := ref_l1 hl hi i 0 k (by omega) (by omega)
    have l1 : (ref06_Valid.l1 k 0 w i = some (.inl false) ∧ _) ∨ (ref06_Valid.l1 k 0 w i = some (.inr ()) ∧ _) := l1
    rw [hp] at hr l1 ⊢
    obtain ⟨b, _, h1, h2⟩ := prime2 (p := p) (by omega) (by omega) (k := k) (by omega)
    have ho : ∀ P : Prop, (okI w i → P) ↔ (isP p → (∀ j, j < i → rdD w.Primes (j : Int) 0 ≠ (p : Int)) → (-1000 ≤ lg w i ∧ lg w i ≤ 1000) → P) := fun P => by
      constructor
      · intro f a b c
        exact f ⟨p, hp, by omega, a, b, c⟩
      · rintro f ⟨q, e1, e2, e3, e4, e5⟩
        have : q = p := by omega
        subst this
        exact f e3 e4 e5
    rw [h1, Option.bind_some]
    cases b
    · right
      exact ⟨(ho False).2 fun a _ _ => (by have := h2.2 a; cases this), rfl⟩
    by_cases hg : rdD w.Logs (i : Int) 0 < -1000
    · right
      refine ⟨(ho False).2 fun _ _ a => ?_, by rw [decide_eq_true hg]; rfl⟩
      have : -1000 ≤ rdD w.Logs (i : Int) 0 := a.1
      omega
    by_cases hg2 : rdD w.Logs (i : Int) 0 > 1000
    · right
      refine ⟨(ho False).2 fun _ _ a => ?_, by rw [decide_eq_false hg, decide_eq_true hg2]; rfl⟩
      have : rdD w.Logs (i : Int) 0 ≤ 1000 := a.2
      omega
    rw [decide_eq_false hg, decide_eq_false hg2]
    rcases l1 with ⟨l1, j, _, j1, j2⟩ | ⟨l1, l2⟩
    · right
      refine ⟨(ho False).2 fun _ a _ => a j j1 j2, ?_⟩
      rw [if_neg (by decide), Option.bind_some, if_neg (by decide), Option.bind_some, if_neg (by decide), l1]; rfl
    · left
      refine ⟨⟨p, hp, by omega, h2.1 rfl, fun j hj => l2 j (by omega) hj, by show -1000 ≤ rdD w.Logs (i : Int) 0 ∧ rdD w.Logs (i : Int) 0 ≤ 1000; omega⟩, ?_⟩
      rw [if_neg (by decide), Option.bind_some, if_neg (by decide), Option.bind_some, if_neg (by decide), l1]; rfl
theorem val2_l0 {w : Weights} (hl : w.Primes.length ≤ 12) (hll : w.Logs.length = w.Primes.length) : ∀ (d i k : Nat), i + d = w.Primes.length → d + 3000 < k →
    (weight_Valid.l0 k i w = some (.inl false) ∧ ref06_Valid.l0 k i w = some (.inl false) ∧ ¬ ∀ j, i ≤ j → j < w.Primes.length → okI w j) ∨ (weight_Valid.l0 k i w = some (.inr ()) ∧ ref06_Valid.l0 k i w = some (.inr ()) ∧ ∀ j, i ≤ j → j < w.Primes.length → okI w j)
  | 0, i, k, e, hk => by
    obtain ⟨k, rfl⟩ : ∃ m, k = m + 1 := ⟨k - 1, by omega⟩
    exact .inr ⟨by rw [weight_Valid.l0, if_neg (by simp; omega)], by rw [ref06_Valid.l0, if_neg (by simp; omega)], fun j h1 h2 => by omega⟩
  | d + 1, i, k, e, hk => by
    obtain ⟨k, rfl⟩ : ∃ m, k = m + 1 := ⟨k - 1, by omega⟩
    rcases okI_step hl hll (i := i) (k := k) (by omega) (by omega) with ⟨o, h1⟩ | ⟨o, h1⟩
    · rcases okI_ref hl hll (i := i) (k := k) (by omega) (by omega) with ⟨_, h2⟩ | ⟨o2, _⟩
      · rw [h1, h2]
        rcases val2_l0 hl hll d (i + 1) k (by omega) (by omega) with ⟨a, b, c⟩ | ⟨a, b, c⟩
        · exact .inl ⟨a, b, fun f => c fun j j1 j2 => f j (by omega) j2⟩
        · refine .inr ⟨a, b, fun j j1 j2 => ?_⟩
          by_cases ej : j = i
          · subst ej; exact o
          · exact c j (by omega) j2
      · exact absurd o o2
    · rcases okI_ref hl hll (i := i) (k := k) (by omega) (by omega) with ⟨o2, _⟩ | ⟨_, h2⟩
      · exact absurd o2 o
      · exact .inl ⟨h1, h2, fun f => o (f i (by omega) (by omega))⟩
end Gp
set_option linter.unusedVariables false
set_option linter.unusedSimpArgs false
namespace Gp
open Gw Gq
structure ValidW (s : List Tile) (w : Weights) : Prop where
  vt : validT s = true
  vl : (w.Values.length : Int) = cV s
  cl : (w.Carries.length : Int) = cH s
  fl : w.Factors.length = s.length
  pl : w.Primes.length ≤ 12
  ll : w.Logs.length = w.Primes.length
  okv : ∀ f ∈ w.Values, okF f ∧ 0 ≤ f.Num
  okc : ∀ f ∈ w.Carries, okF f
  okf : ∀ f ∈ w.Factors, okF f ∧ 0 < f.Num
  pp : ∀ j, j < w.Primes.length → okI w j
theorem cV_bd {s : List Tile} (hv : validT s = true) : (0 ≤ cV s ∧ cV s ≤ 1000) ∧ 0 ≤ cH s ∧ cH s ≤ 1000 := by
  have hc := ((vT_iff s).1 hv).2.2
  have h1 := (foldV_ge s 0).1
  have h2 := (foldH_ge s 0).1
  have h3 := foldV_le (B := 1000) s 0 (fun t ht => by have := hc t ht; unfold colB inCol at this; simp only [Bool.and_eq_true, decide_eq_true_eq] at this; omega) (by omega)
  have h4 := foldH_le (B := 1000) s 0 (fun t ht => by have := hc t ht; unfold colB inCol at this; simp only [Bool.and_eq_true, decide_eq_true_eq] at this; omega) (by omega)
  exact ⟨⟨h1, h3⟩, h2, h4⟩
theorem ValidW.all {s : List Tile} {w : Weights} (V : ValidW s w) : OKW s w ∧ OKP w ∧ coP w := by
  have hl : s.length ≤ 1000 := ((vT_iff s).1 V.vt).1
  have hcol := vT_col V.vt
  have hV := (foldV_ge s 0).2
  have hH := (foldH_ge s 0).2
  have hm : ∀ i, i < s.length → tw s i ∈ s := fun i hi => by rw [tw_get hi]; exact List.getElem_mem hi
  have e1 : s.foldl mxV 0 = (w.Values.length : Int) := V.vl.symm
  have e2 : s.foldl mxH 0 = (w.Carries.length : Int) := V.cl.symm
  refine ⟨⟨hl, fun i hi => ?_, fun i hi => ?_, fun i hi => ?_, fun i hi => ?_, V.fl, V.okv, V.okc, V.okf⟩, okI_all V.pl V.ll V.pp⟩
  · have := hV _ (hm i hi); have := hcol i hi; omega
  · have := hV _ (hm i hi); have := hcol i hi; omega
  · have := hH _ (hm i hi); have := hcol i hi; omega
  · have := hH _ (hm i hi); have := hcol i hi; omega
theorem valW {s : List Tile} {w : Weights} (hs : s.length ≤ 9223372036854775807) {k : Nat} (hk : 100000 < k) : ∃ b, weight_Valid k s w = some b ∧ (b = true ↔ ValidW s w) := by
  unfold weight_Valid
  rw [tile_valid s (by omega) hs, Option.bind_some]
  cases hv : validT s
  · exact ⟨false, rfl, fun h => (by cases h), fun h => by rw [h.vt] at hv; cases hv⟩
  rw [if_neg (by decide)]
  have hl : s.length ≤ 1000 := ((vT_iff s).1 hv).1
  have hb := cV_bd hv
  rw [(need2_eq hv (k := k) (by omega)).1, Option.bind_some]
  simp only
  by_cases hlen : (((((w.Values.length : Int) != cV s) || ((w.Carries.length : Int) != cH s)) || ((w.Factors.length : Int) != (s.length : Int))) || (decide ((w.Primes.length : Int) > 12)) || ((w.Logs.length : Int) != (w.Primes.length : Int))) = true
  · refine ⟨false, by rw [if_pos hlen], fun h => (by cases h), fun h => ?_⟩
    simp only [Bool.or_eq_true, bne_iff_ne, ne_eq, decide_eq_true_eq] at hlen
    have := h.vl; have := h.cl; have := h.fl; have := h.pl; have := h.ll
    omega
  rw [if_neg hlen]
  simp only [Bool.or_eq_true, bne_iff_ne, ne_eq, decide_eq_true_eq, not_or, Decidable.not_not] at hlen
  obtain ⟨⟨⟨⟨l1, l2⟩, l3⟩, l4⟩, l5⟩ := hlen
  rw [allfv2 (l := w.Values) (by omega) (k := k) (by omega), allfv2 (l := w.Carries) (by omega) (k := k) (by omega), allfv2 (l := w.Factors) (by omega) (k := k) (by omega), allv12 (l := w.Values) (by omega) (k := k) (by omega), allv22 (l := w.Factors) (by omega) (k := k) (by omega)]
  cases h1 : w.Values.all okFb
  · refine ⟨false, rfl, fun h => (by cases h), fun V => ?_⟩
    have : w.Values.all okFb = true := List.all_eq_true.2 fun f hf => (okFb_iff f).2 (V.okv f hf).1
    rw [this] at h1; cases h1
  cases h2 : w.Carries.all okFb
  · refine ⟨false, rfl, fun h => (by cases h), fun V => ?_⟩
    have : w.Carries.all okFb = true := List.all_eq_true.2 fun f hf => (okFb_iff f).2 (V.okc f hf)
    rw [this] at h2; cases h2
  cases h3 : w.Factors.all okFb
  · refine ⟨false, rfl, fun h => (by cases h), fun V => ?_⟩
    have : w.Factors.all okFb = true := List.all_eq_true.2 fun f hf => (okFb_iff f).2 (V.okf f hf).1
    rw [this] at h3; cases h3
  cases h4 : w.Values.all fun f => decide (f.Num ≥ 0)
  · refine ⟨false, rfl, fun h => (by cases h), fun V => ?_⟩
    have : (w.Values.all fun f => decide (f.Num ≥ 0)) = true := List.all_eq_true.2 fun f hf => decide_eq_true (V.okv f hf).2
    rw [this] at h4; cases h4
  cases h5 : w.Factors.all fun f => decide (f.Num > 0)
  · refine ⟨false, rfl, fun h => (by cases h), fun V => ?_⟩
    have : (w.Factors.all fun f => decide (f.Num > 0)) = true := List.all_eq_true.2 fun f hf => decide_eq_true (V.okf f hf).2
    rw [this] at h5; cases h5
  have l0 := val2_l0 (w := w) (by omega) (by omega) w.Primes.length 0 k (by omega) (by omega)
  have l0 : (weight_Valid.l0 k 0 w = some (.inl false) ∧ _ ∧ _) ∨ (weight_Valid.l0 k 0 w = some (.inr ()) ∧ _ ∧ _) := l0
  show ∃ b, ((weight_Valid.l0 k 0 w).bind _) = some b ∧ _
  rcases l0 with ⟨h, _, h6⟩ | ⟨h, _, h6⟩
  · rw [h]; exact ⟨false, rfl, fun h => (by cases h), fun V => absurd (fun j _ hj => V.pp j hj) h6⟩
  · rw [h]
    rw [List.all_eq_true] at h1 h2 h3 h4 h5
    exact ⟨true, rfl, fun _ => ⟨hv, l1, l2, by omega, by omega, by omega, fun f hf => ⟨(okFb_iff f).1 (h1 f hf), of_decide_eq_true (h4 f hf)⟩, fun f hf => (okFb_iff f).1 (h2 f hf), fun f hf => ⟨(okFb_iff f).1 (h3 f hf), of_decide_eq_true (h5 f hf)⟩, fun j hj => h6 j (by omega) hj⟩, fun _ => rfl⟩
theorem frP_iff (m : Int) (f : Frac) : frP m f = true ↔ okF f ∧ m ≤ f.Num := by
  unfold frP
  rw [Bool.and_eq_true, okFb_iff, Bool.not_eq_true', decide_eq_false_iff_not]
  constructor
  · rintro ⟨a, b⟩; exact ⟨a, by omega⟩
  · rintro ⟨a, b⟩; exact ⟨a, by omega⟩
theorem valR {s : List Tile} {w : Weights} (hs : s.length ≤ 9223372036854775807) {k : Nat} (hk : 200000 < k) : ∃ b, ref06_Valid k s w = some b ∧ (b = true ↔ ValidW s w) := by
  unfold ref06_Valid
  rw [valid01 s (by omega) hs, Option.bind_some]
  cases hv : validT s
  · exact ⟨false, rfl, fun h => (by cases h), fun h => by rw [h.vt] at hv; cases hv⟩
  rw [if_neg (by decide)]
  have hl : s.length ≤ 1000 := ((vT_iff s).1 hv).1
  have hb := cV_bd hv
  rw [(need2_eq hv (k := k) (by omega)).2, Option.bind_some]
  simp only
  rw [frac_eq (n := cV s) (by omega) 0 (k := k) (by omega), frac_eq (n := cH s) (by omega) (-1000000) (k := k) (by omega), frac_eq (n := (s.length : Int)) (by omega) 1 (k := k) (by omega)]
  cases h1 : (decide ((w.Values.length : Int) = cV s) && w.Values.all (frP 0))
  · refine ⟨false, rfl, fun h => (by cases h), fun V => ?_⟩
    have : (decide ((w.Values.length : Int) = cV s) && w.Values.all (frP 0)) = true := by
      rw [Bool.and_eq_true, decide_eq_true_eq, List.all_eq_true]
      exact ⟨V.vl, fun f hf => (frP_iff 0 f).2 (V.okv f hf)⟩
    rw [this] at h1; cases h1
  cases h2 : (decide ((w.Carries.length : Int) = cH s) && w.Carries.all (frP (-1000000)))
  · refine ⟨false, rfl, fun h => (by cases h), fun V => ?_⟩
    have : (decide ((w.Carries.length : Int) = cH s) && w.Carries.all (frP (-1000000))) = true := by
      rw [Bool.and_eq_true, decide_eq_true_eq, List.all_eq_true]
      exact ⟨V.cl, fun f hf => (frP_iff _ f).2 ⟨V.okc f hf, (V.okc f hf).1.1⟩⟩
    rw [this] at h2; cases h2
  cases h3 : (decide ((w.Factors.length : Int) = (s.length : Int)) && w.Factors.all (frP 1))
  · refine ⟨false, rfl, fun h => (by cases h), fun V => ?_⟩
    have : (decide ((w.Factors.length : Int) = (s.length : Int)) && w.Factors.all (frP 1)) = true := by
      rw [Bool.and_eq_true, decide_eq_true_eq, List.all_eq_true]
      exact ⟨by rw [V.fl], fun f hf => (frP_iff _ f).2 ⟨(V.okf f hf).1, (V.okf f hf).2⟩⟩
    rw [this] at h3; cases h3
  by_cases hlen : ((decide ((w.Primes.length : Int) > 12)) || ((w.Logs.length : Int) != (w.Primes.length : Int))) = true
  · refine ⟨false, ?_, fun h => (by cases h), fun h => ?_⟩
    · rw [hlen]; rfl
    · simp only [Bool.or_eq_true, bne_iff_ne, ne_eq, decide_eq_true_eq] at hlen
      have := h.pl; have := h.ll
      omega
  rw [Bool.not_eq_true] at hlen
  rw [hlen]
  simp only [Bool.or_eq_false_iff, bne_eq_false_iff_eq, decide_eq_false_iff_not] at hlen
  obtain ⟨l4, l5⟩ := hlen
  have l0 := val2_l0 (w := w) (by omega) (by omega) w.Primes.length 0 k (by omega) (by omega)
  have l0 : (_ ∧ ref06_Valid.l0 k 0 w = some (.inl false) ∧ _) ∨ (_ ∧ ref06_Valid.l0 k 0 w = some (.inr ()) ∧ _) := l0
  show ∃ b, ((ref06_Valid.l0 k 0 w).bind _) = some b ∧ _
  rcases l0 with ⟨_, h, h6⟩ | ⟨_, h, h6⟩
  · rw [h]; exact ⟨false, rfl, fun h => (by cases h), fun V => absurd (fun j _ hj => V.pp j hj) h6⟩
  · rw [h]
    rw [Bool.and_eq_true, decide_eq_true_eq, List.all_eq_true] at h1 h2 h3
    exact ⟨true, rfl, fun _ => ⟨hv, h1.1, h2.1, by have := h3.1; omega, by omega, by omega, fun f hf => (frP_iff _ f).1 (h1.2 f hf), fun f hf => ((frP_iff _ f).1 (h2.2 f hf)).1, fun f hf => (frP_iff _ f).1 (h3.2 f hf), fun j hj => h6 j (by omega) hj⟩, fun _ => rfl⟩
end Gp
set_option linter.unusedVariables false
set_option linter.unusedSimpArgs false
namespace Gp
open Gw Gq
end Gp
set_option linter.unusedVariables false
set_option linter.unusedSimpArgs false
namespace Gp
open Gw Gq
end Gp
set_option linter.unusedVariables false
set_option linter.unusedSimpArgs false
namespace Gp
open Gw Gq
end Gp
set_option linter.unusedVariables false
set_option linter.unusedSimpArgs false
namespace Gp
open Gw Gq
/-! digits -/
end Gp
set_option linter.unusedVariables false
set_option linter.unusedSimpArgs false
namespace Gp
open Gw Gq
theorem gcdR_l0 : ∀ (k a b : Nat), b < k → ref06_gcd.l0 k (a : Int) (b : Int) = some ((Nat.gcd a b : Nat) : Int)
  | 0, a, b, h => by omega
  | k + 1, a, b, h => by
    by_cases hb : b = 0
    · subst hb
      rw [ref06_gcd.l0, if_neg (by decide), Nat.gcd_zero_right]
    · have hm : Int.tmod (a : Int) (b : Int) = ((a % b : Nat) : Int) := rfl
      have hlt : a % b < b := Nat.mod_lt _ (by omega)
      rw [ref06_gcd.l0, if_pos (by rw [decide_eq_true_eq]; omega), if_pos (by omega), hm, gcdR_l0 k b (a % b) (by omega), Nat.gcd_comm a b, Nat.gcd_rec b a, Nat.gcd_comm]
theorem lowestR_eq {a b k : Nat} (ha : a ≤ 1000000000000000000) (hb : 1 ≤ b ∧ b ≤ 1000000) (hk : 1000001 < k) : ref06_Lowest k (a : Int) (b : Int) = some ⟨((a / Nat.gcd a b : Nat) : Int), ((b / Nat.gcd a b : Nat) : Int)⟩ := by
  have hg : 0 < Nat.gcd a b := Nat.gcd_pos_of_pos_right _ (by omega)
  unfold ref06_Lowest ref06_gcd
  rw [gcdR_l0 k a b (by omega), Option.bind_some, Option.bind_some, if_pos (by omega)]
  have e1 : Int.tdiv (a : Int) ((Nat.gcd a b : Nat) : Int) = ((a / Nat.gcd a b : Nat) : Int) := rfl
  have e2 : Int.tdiv (b : Int) ((Nat.gcd a b : Nat) : Int) = ((b / Nat.gcd a b : Nat) : Int) := rfl
  have h1 := Nat.div_le_self a (Nat.gcd a b)
  have h2 := Nat.div_le_self b (Nat.gcd a b)
  rw [e1, e2]
  generalize a / Nat.gcd a b = x at h1 ⊢
  generalize b / Nat.gcd a b = y at h2 ⊢
  rw [w64_id (by omega) (by omega), w64_id (by omega) (by omega)]
end Gp
set_option linter.unusedVariables false
set_option linter.unusedSimpArgs false
namespace Gp
open Gw Gq
/-! the part that stays -/
end Gp
set_option linter.unusedVariables false
set_option linter.unusedSimpArgs false
namespace Gp
open Gw Gq
end Gp
set_option linter.unusedVariables false
set_option linter.unusedSimpArgs false
namespace Gp
open Gw Gq
/-! lowest terms -/
theorem w64_dv {a b : Nat} (h : a ≤ 1000000000000000000) : w64 ((a / b : Nat) : Int) = ((a / b : Nat) : Int) := by
  have h1 := Nat.div_le_self a b
  generalize a / b = x at h1 ⊢
  exact w64_id (by omega) (by omega)
theorem low0_eq {a b k : Nat} (ha : a ≤ 1000000000000000000) (hb : 1 ≤ b ∧ b ≤ 1000000) (hk : 1000001 < k) : weight_fraction_lowest k ⟨(a : Int), (b : Int)⟩ = some ⟨((a / Nat.gcd a b : Nat) : Int), ((b / Nat.gcd a b : Nat) : Int)⟩ := by
  have hg : 0 < Nat.gcd a b := Nat.gcd_pos_of_pos_right _ (by omega)
  unfold weight_fraction_lowest
  simp only
  have hm : maxI (a : Int) (w64 (0 - (a : Int))) = (a : Int) := by
    rw [w64_id (by omega) (by omega)]
    unfold maxI; split <;> omega
  have h1 : a / Nat.gcd a b ≤ a := Nat.div_le_self _ _
  have h2 : b / Nat.gcd a b ≤ b := Nat.div_le_self _ _
  rw [hm, gcd_eq (by omega), Option.bind_some, if_pos (by omega)]
  have e1 : Int.tdiv (a : Int) ((Nat.gcd a b : Nat) : Int) = ((a / Nat.gcd a b : Nat) : Int) := rfl
  have e2 : Int.tdiv (b : Int) ((Nat.gcd a b : Nat) : Int) = ((b / Nat.gcd a b : Nat) : Int) := rfl
  rw [e1, e2, w64_dv (by omega), w64_dv (by omega)]
def lowN (f : Frac) : Nat := f.Num.toNat / Nat.gcd f.Num.toNat f.Den.toNat
def lowD (f : Frac) : Nat := f.Den.toNat / Nat.gcd f.Num.toNat f.Den.toNat
def okV (f : Frac) : Prop := okF f ∧ 0 ≤ f.Num
theorem low_ok {f : Frac} (h : okV f) : lowN f ≤ 1000000 ∧ (1 ≤ lowD f ∧ lowD f ≤ 1000000) ∧ f.Num.toNat * lowD f = f.Den.toNat * lowN f ∧ (lowN f = 0 → f.Num = 0) := by
  obtain ⟨⟨h1, h2⟩, h0⟩ := h
  obtain ⟨n, hn⟩ : ∃ n : Nat, f.Num = n := ⟨f.Num.toNat, by omega⟩
  obtain ⟨d, hd⟩ : ∃ d : Nat, f.Den = d := ⟨f.Den.toNat, by omega⟩
  unfold lowN lowD
  rw [hn, hd, Int.toNat_natCast, Int.toNat_natCast]
  have hg : 0 < Nat.gcd n d := Nat.gcd_pos_of_pos_right _ (by omega)
  have e1 : n / Nat.gcd n d * Nat.gcd n d = n := Nat.div_mul_cancel (Nat.gcd_dvd_left n d)
  have e2 : d / Nat.gcd n d * Nat.gcd n d = d := Nat.div_mul_cancel (Nat.gcd_dvd_right n d)
  refine ⟨Nat.le_trans (Nat.div_le_self _ _) (by omega), ⟨(Nat.le_div_iff_mul_le hg).2 (by rw [Nat.one_mul]; exact Nat.gcd_le_right _ (by omega)), Nat.le_trans (Nat.div_le_self _ _) (by omega)⟩, ?_, fun h => ?_⟩
  · calc n * (d / Nat.gcd n d) = n / Nat.gcd n d * Nat.gcd n d * (d / Nat.gcd n d) := by rw [e1]
      _ = d / Nat.gcd n d * Nat.gcd n d * (n / Nat.gcd n d) := by rw [Nat.mul_assoc, Nat.mul_comm]; congr 1; exact Nat.mul_comm _ _
      _ = d * (n / Nat.gcd n d) := by rw [e2]
  · rw [h, Nat.zero_mul] at e1; omega
theorem low_W {f : Frac} (h : okV f) {k : Nat} (hk : 1000001 < k) : weight_fraction_lowest k ⟨f.Num, f.Den⟩ = some ⟨(lowN f : Int), (lowD f : Int)⟩ := by
  obtain ⟨⟨h1, h2⟩, h0⟩ := h
  have e1 : f.Num = ((f.Num.toNat : Nat) : Int) := by omega
  have e2 : f.Den = ((f.Den.toNat : Nat) : Int) := by omega
  have := low0_eq (a := f.Num.toNat) (b := f.Den.toNat) (by omega) (by omega) hk
  rw [← e1, ← e2] at this
  exact this
theorem low_R {f : Frac} (h : okV f) {k : Nat} (hk : 1000001 < k) : ref06_Lowest k f.Num f.Den = some ⟨(lowN f : Int), (lowD f : Int)⟩ := by
  obtain ⟨⟨h1, h2⟩, h0⟩ := h
  have e1 : f.Num = ((f.Num.toNat : Nat) : Int) := by omega
  have e2 : f.Den = ((f.Den.toNat : Nat) : Int) := by omega
  have := lowestR_eq (a := f.Num.toNat) (b := f.Den.toNat) (by omega) (by omega) hk
  rw [← e1, ← e2] at this
  exact this
/-! the common denominator -/
def lcmS (o d : Nat) : Nat := o * (d / Nat.gcd o d)
def comN : Nat → List Frac → Option Nat
  | o, [] => some o
  | o, f :: l => if lcmS o (lowD f) > 1000000 then none else comN (lcmS o (lowD f)) l
theorem lcmS_ok {o d : Nat} (ho : 1 ≤ o) (hd : 1 ≤ d) : o / Nat.gcd o d * d = lcmS o d ∧ o ∣ lcmS o d ∧ d ∣ lcmS o d ∧ 1 ≤ lcmS o d := by
  have hg : 0 < Nat.gcd o d := Nat.gcd_pos_of_pos_left _ (by omega)
  have h1 : o / Nat.gcd o d * d = lcmS o d := by
    unfold lcmS
    rw [Nat.div_mul_right_comm (Nat.gcd_dvd_left o d), Nat.mul_div_assoc _ (Nat.gcd_dvd_right o d)]
  refine ⟨h1, ⟨_, rfl⟩, ⟨o / Nat.gcd o d, by rw [← h1, Nat.mul_comm]⟩, ?_⟩
  unfold lcmS
  have : 1 ≤ d / Nat.gcd o d := (Nat.le_div_iff_mul_le hg).2 (by rw [Nat.one_mul]; exact Nat.gcd_le_right _ (by omega))
  exact Nat.mul_pos ho this
theorem lcmS_le {o d : Nat} (ho : o ≤ 1000000) (hd : d ≤ 1000000) : lcmS o d ≤ 1000000000000 := by
  unfold lcmS
  exact Nat.mul_le_mul ho (Nat.le_trans (Nat.div_le_self _ _) hd)
theorem comN_ok : ∀ (l : List Frac) (o r : Nat), (1 ≤ o ∧ o ≤ 1000000) → (∀ f ∈ l, okV f) → comN o l = some r → (1 ≤ r ∧ r ≤ 1000000) ∧ o ∣ r ∧ ∀ f ∈ l, lowD f ∣ r
  | [], o, r, ho, hl, h => by
    rw [comN] at h
    cases h
    exact ⟨ho, Nat.dvd_refl _, fun f hf => by cases hf⟩
  | f :: l, o, r, ho, hl, h => by
    rw [comN] at h
    have hf := low_ok (hl f List.mem_cons_self)
    obtain ⟨_, h1, h2, h3⟩ := lcmS_ok ho.1 hf.2.1.1
    by_cases hc : lcmS o (lowD f) > 1000000
    · rw [if_pos hc] at h; cases h
    · rw [if_neg hc] at h
      obtain ⟨a, b, c⟩ := comN_ok l _ r ⟨h3, by omega⟩ (fun g hg => hl g (List.mem_cons_of_mem _ hg)) h
      refine ⟨a, Nat.dvd_trans h1 b, fun g hg => ?_⟩
      rcases List.mem_cons.1 hg with rfl | hg
      · exact Nat.dvd_trans h2 b
      · exact c g hg
theorem com_l0 {l : List Frac} (hl : l.length ≤ 100000) (hok : ∀ f ∈ l, okV f) : ∀ (r x k o : Nat), x + r = l.length → r + 1000010 < k → (1 ≤ o ∧ o ≤ 1000000) →
    (comN o (l.drop x) = none ∧ weight_common.l0 k (o : Int) x l = some (.inl (0, false)) ∧ ref06_Common.l0 k (o : Int) x l 1000000 = some (.inl 1000001)) ∨ (∃ m : Nat, comN o (l.drop x) = some m ∧ weight_common.l0 k (o : Int) x l = some (.inr (m : Int)) ∧ ref06_Common.l0 k (o : Int) x l 1000000 = some (.inr (m : Int)))
  | 0, x, k, o, e, hk, ho => by
    obtain ⟨k, rfl⟩ : ∃ m, k = m + 1 := ⟨k - 1, by omega⟩
    refine .inr ⟨o, ?_, by rw [weight_common.l0, if_neg (by simp; omega)], by rw [ref06_Common.l0, if_neg (by simp; omega)]⟩
    rw [List.drop_of_length_le (by omega), comN]
  | r + 1, x, k, o, e, hk, ho => by
    obtain ⟨k, rfl⟩ : ∃ m, k = m + 1 := ⟨k - 1, by omega⟩
    have hx : x < l.length := by omega
    have hwx : w64 ((x : Int) + 1) = ((x + 1 : Nat) : Int) := by rw [w64_id (by omega) (by omega)]; rfl
    have hf := hok _ (List.getElem_mem hx)
    obtain ⟨f1, f2, f3⟩ := low_ok hf
    have hg : 0 < Nat.gcd o (lowD l[x]) := Nat.gcd_pos_of_pos_left _ (by omega)
    obtain ⟨q1, q2, q3, q4⟩ := lcmS_ok ho.1 f2.1
    have q5 := lcmS_le ho.2 f2.2
    have e1 : Int.tdiv (lowD l[x] : Int) ((Nat.gcd o (lowD l[x]) : Nat) : Int) = ((lowD l[x] / Nat.gcd o (lowD l[x]) : Nat) : Int) := rfl
    have e2 : Int.tdiv (o : Int) ((Nat.gcd o (lowD l[x]) : Nat) : Int) = ((o / Nat.gcd o (lowD l[x]) : Nat) : Int) := rfl
    have d1 : lowD l[x] / Nat.gcd o (lowD l[x]) ≤ lowD l[x] := Nat.div_le_self _ _
    have d2 : o / Nat.gcd o (lowD l[x]) ≤ o := Nat.div_le_self _ _
    have m1 : w64 ((o : Int) * ((lowD l[x] / Nat.gcd o (lowD l[x]) : Nat) : Int)) = ((lcmS o (lowD l[x]) : Nat) : Int) := by
      rw [mulN']; exact w64_id (n := ((lcmS o (lowD l[x]) : Nat) : Int)) (by omega) (by omega)
    have m2 : w64 (((o / Nat.gcd o (lowD l[x]) : Nat) : Int) * (lowD l[x] : Int)) = ((lcmS o (lowD l[x]) : Nat) : Int) := by
      rw [mulN', q1]; exact w64_id (by omega) (by omega)
    have w1 : w64 ((1000000 : Int) + 1) = 1000001 := by decide
    have g1 : ref06_gcd k (o : Int) (lowD l[x] : Int) = some ((Nat.gcd o (lowD l[x]) : Nat) : Int) := by
      unfold ref06_gcd; rw [gcdR_l0 k _ _ (by omega)]; rfl
    have s1 : weight_common.l0 (k + 1) (o : Int) x l = if (decide (((lcmS o (lowD l[x]) : Nat) : Int) > 1000000)) = true then some (.inl (0, false)) else weight_common.l0 k ((lcmS o (lowD l[x]) : Nat) : Int) ((x + 1 : Nat) : Int) l := by
      rw [weight_common.l0, if_pos (by simpa using hx), if_pos (by omega), rdD_get hx, low_W hf (by omega), Option.bind_some]
      simp only
      rw [gcd_eq (by omega), Option.bind_some, if_pos (by omega), e1, w64_dv (by omega), m1, hwx]
    have s2 : ref06_Common.l0 (k + 1) (o : Int) x l 1000000 = if (decide (minI ((lcmS o (lowD l[x]) : Nat) : Int) 1000001 > 1000000)) = true then some (.inl (minI ((lcmS o (lowD l[x]) : Nat) : Int) 1000001)) else ref06_Common.l0 k (minI ((lcmS o (lowD l[x]) : Nat) : Int) 1000001) ((x + 1 : Nat) : Int) l 1000000 := by
      rw [ref06_Common.l0, if_pos (by simpa using hx), if_pos (by omega), rdD_get hx, low_R hf (by omega), Option.bind_some]
      simp only
      rw [g1, Option.bind_some, if_pos (by omega), e2, w64_dv (by omega), m2, w1, hwx]
    rw [s1, s2, List.drop_eq_getElem_cons hx, comN]
    by_cases hc : lcmS o (lowD l[x]) > 1000000
    · have hm : minI ((lcmS o (lowD l[x]) : Nat) : Int) 1000001 = 1000001 := by unfold minI; split <;> omega
      rw [if_pos hc, hm, if_pos (by rw [decide_eq_true_eq]; omega), if_pos (by decide)]
      exact .inl ⟨rfl, rfl, rfl⟩
    · have hm : minI ((lcmS o (lowD l[x]) : Nat) : Int) 1000001 = ((lcmS o (lowD l[x]) : Nat) : Int) := by unfold minI; split <;> omega
      rw [if_neg hc, hm, if_neg (by rw [decide_eq_true_eq]; omega), if_neg (by rw [decide_eq_true_eq]; omega)]
      exact com_l0 hl hok r (x + 1) k _ (by omega) (by omega) ⟨q4, by omega⟩
theorem com_eq {l : List Frac} (hl : l.length ≤ 100000) (hok : ∀ f ∈ l, okV f) {k : Nat} (hk : 2000000 < k) :
    (comN 1 l = none ∧ weight_common k l = some (0, false) ∧ ref06_Common k l 1000000 = some 1000001) ∨ (∃ m : Nat, comN 1 l = some m ∧ weight_common k l = some ((m : Int), true) ∧ ref06_Common k l 1000000 = some (m : Int)) := by
  have h := com_l0 hl hok l.length 0 k 1 (by omega) (by omega) (by omega)
  rw [List.drop_zero] at h
  have h : (_ ∧ weight_common.l0 k 1 0 l = _ ∧ ref06_Common.l0 k 1 0 l 1000000 = _) ∨ (∃ m : Nat, comN 1 l = some m ∧ weight_common.l0 k 1 0 l = some (.inr (m : Int)) ∧ ref06_Common.l0 k 1 0 l 1000000 = some (.inr (m : Int))) := h
  unfold weight_common ref06_Common
  rcases h with ⟨a, b, c⟩ | ⟨m, a, b, c⟩
  · rw [b, c]; exact .inl ⟨a, rfl, rfl⟩
  · rw [b, c]; exact .inr ⟨m, a, rfl, rfl⟩
/-! rows -/
def rowC (s : List Tile) (p : List Int) (j : Nat) : Prop := (0 ≤ rdD p (j : Int) 0 ∧ rdD p (j : Int) 0 < (s.length : Int)) ∧ (0 < j → (rdD s (rdD p ((j - 1 : Nat) : Int) 0) z_Tile).E = (rdD s (rdD p (j : Int) 0) z_Tile).W)
def rowB (s : List Tile) (p : List Int) (x : Nat) : Bool := decide (rdD p (x : Int) 0 < 0) || (decide (rdD p (x : Int) 0 ≥ (s.length : Int)) || (decide ((x : Int) > 0) && ((rdD s (rdD p ((x - 1 : Nat) : Int) 0) z_Tile).E != (rdD s (rdD p (x : Int) 0) z_Tile).W)))
theorem rowB_iff (s : List Tile) (p : List Int) (x : Nat) : rowB s p x = false ↔ rowC s p x := by
  unfold rowB rowC
  simp only [Bool.or_eq_false_iff, Bool.and_eq_false_iff, decide_eq_false_iff_not, bne_eq_false_iff_eq]
  constructor
  · rintro ⟨a, b, c⟩
    refine ⟨by omega, fun h => ?_⟩
    rcases c with c | c
    · omega
    · exact c
  · rintro ⟨a, b⟩
    refine ⟨by omega, by omega, ?_⟩
    by_cases h : 0 < x
    · exact .inr (b h)
    · exact .inl (by omega)
theorem row_step1 {s : List Tile} {p : List Int} (hp : p.length ≤ 40000) {x k : Nat} (hx : x < p.length) (h : ∀ j, j < x → rowC s p j) : weight_Row.l0 (k + 1) x s p = (if rowB s p x = true then some (.inl (⟨0, 0⟩, ⟨0, 0⟩, 2)) else weight_Row.l0 k ((x + 1 : Nat) : Int) s p) := by
  have hwx : w64 ((x : Int) + 1) = ((x + 1 : Nat) : Int) := by rw [w64_id (by omega) (by omega)]; rfl
  rw [weight_Row.l0, if_pos (by simpa using hx), if_pos (by omega), hwx]
  unfold rowB
  cases h0 : decide (rdD p (x : Int) 0 < 0)
  · cases h1 : decide (rdD p (x : Int) 0 ≥ (s.length : Int))
    · cases h2 : decide ((x : Int) > 0)
      · rfl
      · rw [decide_eq_false_iff_not] at h0 h1
        rw [decide_eq_true_eq] at h2
        have hw1 : w64 ((x : Int) - 1) = ((x - 1 : Nat) : Int) := by rw [w64_id (by omega) (by omega)]; omega
        have hprev := (h (x - 1) (by omega)).1
        have c1 : 0 ≤ ((x - 1 : Nat) : Int) ∧ ((x - 1 : Nat) : Int) < (p.length : Int) := by omega
        have c2 : 0 ≤ rdD p (x : Int) 0 ∧ rdD p (x : Int) 0 < (s.length : Int) := by omega
        rw [if_neg (by decide), if_neg (by decide), if_pos rfl, hw1, if_pos c1, if_pos hprev, if_pos c2]
        rfl
    · rfl
  · rfl
theorem row_step2 {s : List Tile} {p : List Int} (hp : p.length ≤ 40000) {x k : Nat} (hx : x < p.length) (h : ∀ j, j < x → rowC s p j) : ref06_IsRow.l0 (k + 1) x s p = (if rowB s p x = true then some (.inl false) else ref06_IsRow.l0 k ((x + 1 : Nat) : Int) s p) := by
  have hwx : w64 ((x : Int) + 1) = ((x + 1 : Nat) : Int) := by rw [w64_id (by omega) (by omega)]; rfl
  have hr : 0 ≤ (x : Int) ∧ (x : Int) < (p.length : Int) := by omega
  rw [ref06_IsRow.l0, if_pos (by simpa using hx), hwx]
  unfold rowB
  cases h0 : decide (rdD p (x : Int) 0 < 0)
  · cases h1 : decide (rdD p (x : Int) 0 ≥ (s.length : Int))
    · cases h2 : decide ((x : Int) > 0)
      · rw [if_neg (by decide), if_neg (by decide), if_neg (by decide), if_pos hr]; rfl
      · rw [decide_eq_false_iff_not] at h0 h1
        rw [decide_eq_true_eq] at h2
        have hw1 : w64 ((x : Int) - 1) = ((x - 1 : Nat) : Int) := by rw [w64_id (by omega) (by omega)]; omega
        have hprev := (h (x - 1) (by omega)).1
        have c1 : 0 ≤ ((x - 1 : Nat) : Int) ∧ ((x - 1 : Nat) : Int) < (p.length : Int) := by omega
        have c2 : 0 ≤ rdD p (x : Int) 0 ∧ rdD p (x : Int) 0 < (s.length : Int) := by omega
        rw [if_neg (by decide), if_neg (by decide), if_pos rfl, if_pos hr, hw1, if_pos c1, if_pos hprev, if_pos c2]
        rfl
    · rw [if_neg (by decide), if_pos rfl, if_pos hr]; rfl
  · rw [if_pos rfl, if_pos hr]; rfl
theorem row_l0 {s : List Tile} {p : List Int} (hp : p.length ≤ 40000) : ∀ (r x k : Nat), x + r = p.length → r < k → (∀ j, j < x → rowC s p j) →
    (weight_Row.l0 k x s p = some (.inl (⟨0, 0⟩, ⟨0, 0⟩, 2)) ∧ ref06_IsRow.l0 k x s p = some (.inl false) ∧ ¬ ∀ j, j < p.length → rowC s p j) ∨ (weight_Row.l0 k x s p = some (.inr ()) ∧ ref06_IsRow.l0 k x s p = some (.inr ()) ∧ ∀ j, j < p.length → rowC s p j)
  | 0, x, k, e, hk, h => by
    obtain ⟨k, rfl⟩ : ∃ m, k = m + 1 := ⟨k - 1, by omega⟩
    exact .inr ⟨by rw [weight_Row.l0, if_neg (by simp; omega)], by rw [ref06_IsRow.l0, if_neg (by simp; omega)], fun j hj => h j (by omega)⟩
  | r + 1, x, k, e, hk, h => by
    obtain ⟨k, rfl⟩ : ∃ m, k = m + 1 := ⟨k - 1, by omega⟩
    have hx : x < p.length := by omega
    rw [row_step1 hp hx h, row_step2 hp hx h]
    have hc := rowB_iff s p x
    cases hb : rowB s p x
    · rw [if_neg (by decide), if_neg (by decide)]
      exact row_l0 hp r (x + 1) k (by omega) (by omega) fun j hj => by
        by_cases ej : j = x
        · subst ej; exact hc.1 hb
        · exact h j (by omega)
    · rw [if_pos rfl, if_pos rfl]
      exact .inl ⟨rfl, rfl, fun f => by rw [hc.2 (f x hx)] at hb; cases hb⟩
def isRow (s : List Tile) (p : List Int) : Prop := (1 ≤ p.length ∧ p.length ≤ 40000) ∧ ∀ j, j < p.length → rowC s p j
theorem isRow_eq (s : List Tile) (p : List Int) {k : Nat} (hk : 100000 < k) : ∃ b, ref06_IsRow k s p = some b ∧ (b = true ↔ isRow s p) := by
  unfold ref06_IsRow
  by_cases hl : ((decide ((p.length : Int) < 1)) || (decide ((p.length : Int) > 40000))) = true
  · rw [if_pos hl]
    simp only [Bool.or_eq_true, decide_eq_true_eq] at hl
    exact ⟨false, rfl, fun h => (by cases h), fun h => by have := h.1; omega⟩
  rw [if_neg hl]
  simp only [Bool.or_eq_true, decide_eq_true_eq, not_or] at hl
  have h := row_l0 (s := s) (p := p) (by omega) p.length 0 k (by omega) (by omega) (fun j hj => by omega)
  have h : (_ ∧ ref06_IsRow.l0 k 0 s p = some (.inl false) ∧ _) ∨ (_ ∧ ref06_IsRow.l0 k 0 s p = some (.inr ()) ∧ _) := h
  rcases h with ⟨_, h, h2⟩ | ⟨_, h, h2⟩
  · rw [h]; exact ⟨false, rfl, fun h => (by cases h), fun R => absurd R.2 h2⟩
  · rw [h]; exact ⟨true, rfl, fun _ => ⟨by omega, h2⟩, fun _ => rfl⟩
/-! sums -/
def partV (w : Weights) (den : Nat) (c : Int) : Nat := lowN (fr w.Values c) * (den / lowD (fr w.Values c))
def sumP (g : Int → Nat) : List Int → Nat
  | [] => 0
  | x :: l => g x + sumP g l
def gS (s : List Tile) (w : Weights) (den : Nat) (x : Int) : Nat := partV w den (rdD s x z_Tile).S
def gN (s : List Tile) (w : Weights) (den : Nat) (x : Int) : Nat := partV w den (rdD s x z_Tile).N
theorem partV_le {w : Weights} {den : Nat} {c : Int} (hd : den ≤ 1000000) (h : okV (fr w.Values c)) : partV w den c ≤ 1000000000000 := by
  unfold partV
  exact Nat.mul_le_mul (low_ok h).1 (Nat.le_trans (Nat.div_le_self _ _) hd)
theorem row1_eq {w : Weights} {den : Nat} {c : Int} (hc : 0 ≤ c ∧ c < (w.Values.length : Int)) (hd : den ≤ 1000000) (h : okV (fr w.Values c)) {k : Nat} (hk : 1000001 < k) : weight_Row_1 k c w (den : Int) = some ((partV w den c : Nat) : Int) := by
  have hl := low_W h hk
  have hl : weight_fraction_lowest k (Fraction.mk ((rdD w.Values c z_Frac).Num) ((rdD w.Values c z_Frac).Den)) = _ := hl
  have hb := low_ok h
  have h1 := partV_le hd h
  have h2 : den / lowD (fr w.Values c) ≤ den := Nat.div_le_self _ _
  have e1 : Int.tdiv (den : Int) (lowD (fr w.Values c) : Int) = ((den / lowD (fr w.Values c) : Nat) : Int) := rfl
  unfold weight_Row_1
  rw [if_pos hc, hl, Option.bind_some]
  simp only
  rw [if_pos (by omega), e1, w64_dv (by omega), mulN']
  rw [show lowN (fr w.Values c) * (den / lowD (fr w.Values c)) = partV w den c from rfl, w64_id (by omega) (by omega)]
theorem rowS_l1 {s : List Tile} {w : Weights} (ok : OKW s w) {p : List Int} (hp : p.length ≤ 40000) {den : Nat} (hd : den ≤ 1000000) (hr : ∀ j, j < p.length → rowC s p j) (b : Bool) : ∀ (r x k : Nat) (S N : Nat), x + r = p.length → r + 1000001 < k → S ≤ 1000000000000 * x → N ≤ 1000000000000 * x →
    weight_Row.l1 k (S : Int) (N : Int) x s w p ((den : Int), b) = some (((S + sumP (gS s w den) (p.drop x) : Nat) : Int), ((N + sumP (gN s w den) (p.drop x) : Nat) : Int)) ∧ ref06_Sum.l0 k (S : Int) x s w p false (den : Int) = some ((S + sumP (gS s w den) (p.drop x) : Nat) : Int) ∧ ref06_Sum.l0 k (N : Int) x s w p true (den : Int) = some ((N + sumP (gN s w den) (p.drop x) : Nat) : Int)
  | 0, x, k, S, N, e, hk, h1, h2 => by
    obtain ⟨k, rfl⟩ : ∃ m, k = m + 1 := ⟨k - 1, by omega⟩
    rw [List.drop_of_length_le (by omega), weight_Row.l1, ref06_Sum.l0, ref06_Sum.l0, if_neg (by simp; omega), if_neg (by simp; omega), if_neg (by simp; omega)]
    exact ⟨rfl, rfl, rfl⟩
  | r + 1, x, k, S, N, e, hk, h1, h2 => by
    obtain ⟨k, rfl⟩ : ∃ m, k = m + 1 := ⟨k - 1, by omega⟩
    have hx : x < p.length := by omega
    have hwx : w64 ((x : Int) + 1) = ((x + 1 : Nat) : Int) := by rw [w64_id (by omega) (by omega)]; rfl
    have hin := (hr x hx).1
    obtain ⟨i, hi⟩ : ∃ i : Nat, rdD p (x : Int) 0 = i := ⟨(rdD p (x : Int) 0).toNat, by omega⟩
    rw [hi] at hin
    have hi' : i < s.length := by omega
    have oS := ok.S i hi'
    have oN := ok.N i hi'
    have vS : okV (fr w.Values (tw s i).S) := ok.okv _ (fr_mem oS)
    have vN : okV (fr w.Values (tw s i).N) := ok.okv _ (fr_mem oN)
    have bS := partV_le hd vS
    have bN := partV_le hd vN
    have hpx : p[x] = (i : Int) := by rw [← hi, rdD_get hx]
    have rS : weight_Row_1 k (rdD s (i : Int) z_Tile).S w (den : Int) = some ((partV w den (tw s i).S : Nat) : Int) := row1_eq oS hd vS (by omega)
    have rN : weight_Row_1 k (rdD s (i : Int) z_Tile).N w (den : Int) = some ((partV w den (tw s i).N : Nat) : Int) := row1_eq oN hd vN (by omega)
    have lS : ref06_Lowest k (rdD w.Values ((rdD s (i : Int) z_Tile).S) z_Frac).Num (rdD w.Values ((rdD s (i : Int) z_Tile).S) z_Frac).Den = some ⟨(lowN (fr w.Values (tw s i).S) : Int), (lowD (fr w.Values (tw s i).S) : Int)⟩ := low_R vS (by omega)
    have lN : ref06_Lowest k (rdD w.Values ((rdD s (i : Int) z_Tile).N) z_Frac).Num (rdD w.Values ((rdD s (i : Int) z_Tile).N) z_Frac).Den = some ⟨(lowN (fr w.Values (tw s i).N) : Int), (lowD (fr w.Values (tw s i).N) : Int)⟩ := low_R vN (by omega)
    have dS := low_ok vS
    have dN := low_ok vN
    have qS : den / lowD (fr w.Values (tw s i).S) ≤ den := Nat.div_le_self _ _
    have qN : den / lowD (fr w.Values (tw s i).N) ≤ den := Nat.div_le_self _ _
    have eS : Int.tdiv (den : Int) (lowD (fr w.Values (tw s i).S) : Int) = ((den / lowD (fr w.Values (tw s i).S) : Nat) : Int) := rfl
    have eN : Int.tdiv (den : Int) (lowD (fr w.Values (tw s i).N) : Int) = ((den / lowD (fr w.Values (tw s i).N) : Nat) : Int) := rfl
    have pS : (lowN (fr w.Values (tw s i).S) : Int) * ((den / lowD (fr w.Values (tw s i).S) : Nat) : Int) = ((partV w den (tw s i).S : Nat) : Int) := mulN' _ _
    have pN : (lowN (fr w.Values (tw s i).N) : Int) * ((den / lowD (fr w.Values (tw s i).N) : Nat) : Int) = ((partV w den (tw s i).N : Nat) : Int) := mulN' _ _
    have aS : w64 ((S : Int) + ((partV w den (tw s i).S : Nat) : Int)) = ((S + partV w den (tw s i).S : Nat) : Int) := by rw [w64_id (by omega) (by omega)]; rfl
    have aN : w64 ((N : Int) + ((partV w den (tw s i).N : Nat) : Int)) = ((N + partV w den (tw s i).N : Nat) : Int) := by rw [w64_id (by omega) (by omega)]; rfl
    obtain ⟨g1, g2, g3⟩ := rowS_l1 ok hp hd hr b r (x + 1) k (S + partV w den (tw s i).S) (N + partV w den (tw s i).N) (by omega) (by omega) (by omega) (by omega)
    have zS : S + sumP (gS s w den) (p.drop x) = S + partV w den (tw s i).S + sumP (gS s w den) (p.drop (x + 1)) := by
      rw [List.drop_eq_getElem_cons hx, sumP, hpx, Nat.add_assoc]; rfl
    have zN : N + sumP (gN s w den) (p.drop x) = N + partV w den (tw s i).N + sumP (gN s w den) (p.drop (x + 1)) := by
      rw [List.drop_eq_getElem_cons hx, sumP, hpx, Nat.add_assoc]; rfl
    refine ⟨?_, ?_, ?_⟩
    · rw [weight_Row.l1, if_pos (by simpa using hx), if_pos (by omega), hi, if_pos hin]
      simp only
      rw [rS, Option.bind_some, rN, Option.bind_some, aS, aN, hwx, g1, zS, zN]
    · rw [ref06_Sum.l0, if_pos (by simpa using hx), if_pos (by omega), hi, if_pos hin, if_neg (by decide), Option.bind_some, if_pos (by exact oS), lS, Option.bind_some, Option.bind_some]
      simp only
      rw [if_pos (by omega), eS, w64_dv (by omega), pS, w64_id (n := ((partV w den (tw s i).S : Nat) : Int)) (by omega) (by omega), aS, hwx, g2, zS]
    · rw [ref06_Sum.l0, if_pos (by simpa using hx), if_pos (by omega), hi, if_pos hin, if_pos rfl, Option.bind_some, if_pos (by exact oN), lN, Option.bind_some, Option.bind_some]
      simp only
      rw [if_pos (by omega), eN, w64_dv (by omega), pN, w64_id (n := ((partV w den (tw s i).N : Nat) : Int)) (by omega) (by omega), aN, hwx, g3, zN]
end Gp
set_option linter.unusedVariables false
set_option linter.unusedSimpArgs false
namespace Gp
open Gw Gq
def lowF (a b : Nat) : Frac := ⟨((a / Nat.gcd a b : Nat) : Int), ((b / Nat.gcd a b : Nat) : Int)⟩
theorem wrow_no {s : List Tile} {w : Weights} (p : List Int) (hs : s.length ≤ 9223372036854775807) (V : ¬ ValidW s w) {k : Nat} (hk : 4294990000 < k) : weight_Row k s w p = some (⟨0, 0⟩, ⟨0, 0⟩, 1) := by
  obtain ⟨v, h1, h2⟩ := valW (w := w) hs (k := k) (by omega)
  unfold weight_Row
  rw [h1, Option.bind_some]
  cases v
  · rfl
  · exact absurd (h2.1 rfl) V
theorem okVs {s : List Tile} {w : Weights} (V : ValidW s w) : (∀ f ∈ w.Values, okV f) ∧ w.Values.length ≤ 100000 := ⟨fun f hf => V.okv f hf, by have := V.vl; have := (cV_bd V.vt).1; omega⟩
theorem wrow_arg {s : List Tile} {w : Weights} {p : List Int} (hs : s.length ≤ 9223372036854775807) (V : ValidW s w) (R : ¬ isRow s p) {k : Nat} (hk : 4294990000 < k) : weight_Row k s w p = some (⟨0, 0⟩, ⟨0, 0⟩, 2) := by
  obtain ⟨v, h1, h2⟩ := valW (w := w) hs (k := k) (by omega)
  unfold weight_Row
  rw [h1, Option.bind_some, h2.2 V, if_neg (by decide)]
  by_cases hl : ((decide ((p.length : Int) < 1)) || (decide ((p.length : Int) > 40000))) = true
  · rw [if_pos hl]
  rw [if_neg hl]
  simp only [Bool.or_eq_true, decide_eq_true_eq, not_or] at hl
  have h := row_l0 (s := s) (p := p) (by omega) p.length 0 k (by omega) (by omega) (fun j hj => by omega)
  have h : (weight_Row.l0 k 0 s p = some (.inl (⟨0, 0⟩, ⟨0, 0⟩, 2)) ∧ _) ∨ (weight_Row.l0 k 0 s p = some (.inr ()) ∧ _ ∧ _) := h
  rcases h with ⟨h, _⟩ | ⟨h, _, h2⟩
  · rw [h]; rfl
  · exact absurd ⟨by omega, h2⟩ R
theorem wrow_ok {s : List Tile} {w : Weights} {p : List Int} (hs : s.length ≤ 9223372036854775807) (V : ValidW s w) (R : isRow s p) {k : Nat} (hk : 4294990000 < k) :
    (comN 1 w.Values = none → weight_Row k s w p = some (⟨0, 0⟩, ⟨0, 0⟩, 4)) ∧ ∀ den, comN 1 w.Values = some den → weight_Row k s w p = if okFb (lowF (sumP (gS s w den) p) den) = true ∧ okFb (lowF (sumP (gN s w den) p) den) = true then some (lowF (sumP (gS s w den) p) den, lowF (sumP (gN s w den) p) den, 0) else some (⟨0, 0⟩, ⟨0, 0⟩, 4) := by
  obtain ⟨v, h1, h2⟩ := valW (w := w) hs (k := k) (by omega)
  obtain ⟨ok, op, co⟩ := V.all
  obtain ⟨vo, vl⟩ := okVs V
  unfold weight_Row
  rw [h1, Option.bind_some, h2.2 V, if_neg (by decide)]
  have hl := R.1
  rw [if_neg (by simp only [Bool.or_eq_true, decide_eq_true_eq]; omega)]
  have h := row_l0 (s := s) (p := p) (by omega) p.length 0 k (by omega) (by omega) (fun j hj => by omega)
  have h : (weight_Row.l0 k 0 s p = some (.inl (⟨0, 0⟩, ⟨0, 0⟩, 2)) ∧ _ ∧ ¬ ∀ j, j < p.length → rowC s p j) ∨ (weight_Row.l0 k 0 s p = some (.inr ()) ∧ _ ∧ _) := h
  rcases h with ⟨_, _, h⟩ | ⟨h, _, hr⟩
  · exact absurd R.2 h
  rw [h, Option.bind_some]
  show (_ → ((weight_common k w.Values).bind _) = _) ∧ ∀ den, _ → ((weight_common k w.Values).bind _) = _
  rcases com_eq vl vo (k := k) (by omega) with ⟨c1, c2, _⟩ | ⟨m, c1, c2, _⟩
  · rw [c1, c2]
    exact ⟨fun _ => rfl, fun den h => (by cases h)⟩
  · rw [c1, c2]
    refine ⟨fun h => (by cases h), fun den h => ?_⟩
    cases h
    obtain ⟨m1, m2, m3⟩ := comN_ok w.Values 1 m (by omega) vo c1
    have hS := rowS_l1 ok hl.2 m1.2 hr true p.length 0 k 0 0 (by omega) (by omega) (by omega) (by omega)
    have hS : weight_Row.l1 k 0 0 0 s w p ((m : Int), true) = _ ∧ _ := hS
    have hS := hS.1
    rw [List.drop_zero, Nat.zero_add, Nat.zero_add] at hS
    have bd : ∀ (g : Int → Nat) (l : List Int), (∀ x ∈ l, g x ≤ 1000000000000) → sumP g l ≤ 1000000000000 * l.length := fun g l => by
      induction l with
      | nil => intro _; exact Nat.zero_le _
      | cons x l ih =>
        intro h
        have h1 := h x List.mem_cons_self
        have h2 := ih fun y hy => h y (List.mem_cons_of_mem _ hy)
        rw [sumP, List.length_cons]; omega
    have bS : sumP (gS s w m) p ≤ 1000000000000 * p.length := bd _ _ fun x hx => by
      obtain ⟨j, hj, rfl⟩ := List.getElem_of_mem hx
      have hin := (hr j hj).1
      rw [rdD_get hj] at hin
      obtain ⟨i, hi⟩ : ∃ i : Nat, p[j] = i := ⟨p[j].toNat, by omega⟩
      rw [hi] at hin ⊢
      exact partV_le m1.2 (ok.okv _ (fr_mem (ok.S i (by omega))))
    have bN : sumP (gN s w m) p ≤ 1000000000000 * p.length := bd _ _ fun x hx => by
      obtain ⟨j, hj, rfl⟩ := List.getElem_of_mem hx
      have hin := (hr j hj).1
      rw [rdD_get hj] at hin
      obtain ⟨i, hi⟩ : ∃ i : Nat, p[j] = i := ⟨p[j].toNat, by omega⟩
      rw [hi] at hin ⊢
      exact partV_le m1.2 (ok.okv _ (fr_mem (ok.N i (by omega))))
    have q1 := low0_eq (a := sumP (gS s w m) p) (b := m) (by omega) m1 (k := k) (by omega)
    have q2 := low0_eq (a := sumP (gN s w m) p) (b := m) (by omega) m1 (k := k) (by omega)
    rw [Option.bind_some, if_neg (by simp), Option.bind_some, hS, Option.bind_some]
    simp only
    rw [q1, Option.bind_some, q2, Option.bind_some]
    have v1 : weight_fraction_valid ⟨((sumP (gS s w m) p / Nat.gcd (sumP (gS s w m) p) m : Nat) : Int), ((m / Nat.gcd (sumP (gS s w m) p) m : Nat) : Int)⟩ = some (okFb (lowF (sumP (gS s w m) p) m)) := rfl
    have v2 : weight_fraction_valid ⟨((sumP (gN s w m) p / Nat.gcd (sumP (gN s w m) p) m : Nat) : Int), ((m / Nat.gcd (sumP (gN s w m) p) m : Nat) : Int)⟩ = some (okFb (lowF (sumP (gN s w m) p) m)) := rfl
    rw [v1, v2, Option.bind_some]
    cases okFb (lowF (sumP (gS s w m) p) m)
    · rfl
    · cases okFb (lowF (sumP (gN s w m) p) m)
      · rfl
      · rfl
theorem wsum_ok {s : List Tile} {w : Weights} {p : List Int} (V : ValidW s w) (R : isRow s p) {den : Nat} (hd : comN 1 w.Values = some den) {k : Nat} (hk : 4294990000 < k) : ref06_Sum k s w p false (den : Int) = some (lowF (sumP (gS s w den) p) den) ∧ ref06_Sum k s w p true (den : Int) = some (lowF (sumP (gN s w den) p) den) := by
  obtain ⟨ok, op, co⟩ := V.all
  obtain ⟨vo, vl⟩ := okVs V
  have hl := R.1
  have hr := R.2
  obtain ⟨m1, m2, m3⟩ := comN_ok w.Values 1 den (by omega) vo hd
  have hS := rowS_l1 ok hl.2 m1.2 hr true p.length 0 k 0 0 (by omega) (by omega) (by omega) (by omega)
  have hS : _ ∧ ref06_Sum.l0 k 0 0 s w p false (den : Int) = _ ∧ ref06_Sum.l0 k 0 0 s w p true (den : Int) = _ := hS
  obtain ⟨_, h1, h2⟩ := hS
  rw [List.drop_zero, Nat.zero_add] at h1 h2
  have bd : ∀ (g : Int → Nat) (l : List Int), (∀ x ∈ l, g x ≤ 1000000000000) → sumP g l ≤ 1000000000000 * l.length := fun g l => by
    induction l with
    | nil => intro _; exact Nat.zero_le _
    | cons x l ih =>
      intro h
      have h1 := h x List.mem_cons_self
      have h2 := ih fun y hy => h y (List.mem_cons_of_mem _ hy)
      rw [sumP, List.length_cons]; omega
  have bS : sumP (gS s w den) p ≤ 1000000000000 * p.length := bd _ _ fun x hx => by
    obtain ⟨j, hj, rfl⟩ := List.getElem_of_mem hx
    have hin := (hr j hj).1
    rw [rdD_get hj] at hin
    obtain ⟨i, hi⟩ : ∃ i : Nat, p[j] = i := ⟨p[j].toNat, by omega⟩
    rw [hi] at hin ⊢
    exact partV_le m1.2 (ok.okv _ (fr_mem (ok.S i (by omega))))
  have bN : sumP (gN s w den) p ≤ 1000000000000 * p.length := bd _ _ fun x hx => by
    obtain ⟨j, hj, rfl⟩ := List.getElem_of_mem hx
    have hin := (hr j hj).1
    rw [rdD_get hj] at hin
    obtain ⟨i, hi⟩ : ∃ i : Nat, p[j] = i := ⟨p[j].toNat, by omega⟩
    rw [hi] at hin ⊢
    exact partV_le m1.2 (ok.okv _ (fr_mem (ok.N i (by omega))))
  have q1 := lowestR_eq (a := sumP (gS s w den) p) (b := den) (by omega) m1 (k := k) (by omega)
  have q2 := lowestR_eq (a := sumP (gN s w den) p) (b := den) (by omega) m1 (k := k) (by omega)
  unfold ref06_Sum
  rw [h1, h2, Option.bind_some, Option.bind_some, q1, q2]
  exact ⟨rfl, rfl⟩
theorem law06_WeightRow_pure : ∀ (p0 : List Tile) (p1 : Weights) (p2 : List Int), ((∀ x ∈ p0, ok_Tile x) ∧ p0.length ≤ Go.maxLen) → (ok_Weights p1) → ((∀ x ∈ p2, ok64 x) ∧ p2.length ≤ Go.maxLen) → ∃ k, law06_WeightRow k p0 p1 p2 = some true := by
  intro s w p hs _ _
  have hl : s.length ≤ 9223372036854775807 := hs.2
  refine ⟨4999999600 + 400, ?_⟩
  have aw := awake06_ok 4999999600
  obtain ⟨bw, hbw⟩ := wide06 s w
  obtain ⟨v, hv, hv2⟩ := valR (w := w) hl (k := 4999999600 + 400) (by omega)
  unfold law06_WeightRow
  rw [hbw, aw, hv, Option.bind_some]
  cases bw || decide ((p.length : Int) > 50000)
  rotate_left
  · rfl
  rw [if_neg (by decide)]
  by_cases V : ValidW s w
  rotate_left
  · have e1 : v = false := by
      cases v
      · rfl
      · exact absurd (hv2.1 rfl) V
    rw [wrow_no p hl V (by omega), e1]; rfl
  obtain ⟨r, hr, hr2⟩ := isRow_eq s p (k := 4999999600 + 400) (by omega)
  rw [hr]
  by_cases R : isRow s p
  rotate_left
  · have e1 : r = false := by
      cases r
      · rfl
      · exact absurd (hr2.1 rfl) R
    rw [wrow_arg hl V R (by omega), hv2.2 V, e1]; rfl
  obtain ⟨vo, vl⟩ := okVs V
  have hrow := wrow_ok hl V R (k := 4999999600 + 400) (by omega)
  rcases com_eq vl vo (k := 4999999600 + 400) (by omega) with ⟨c1, _, c2⟩ | ⟨den, c1, _, c2⟩
  · rw [hrow.1 c1, c2, hv2.2 V, hr2.2 R]; rfl
  · obtain ⟨m1, m2, m3⟩ := comN_ok w.Values 1 den (by omega) vo c1
    obtain ⟨s1, s2⟩ := wsum_ok V R c1 (k := 4999999600 + 400) (by omega)
    rw [hrow.2 den c1, c2, hv2.2 V, hr2.2 R]
    have hd : decide ((den : Int) > 1000000) = false := decide_eq_false (by omega)
    have f1 : ref06_Fits (Frac.mk (lowF (sumP (gS s w den) p) den).Num (lowF (sumP (gS s w den) p) den).Den) = some (okFb (lowF (sumP (gS s w den) p) den)) := rfl
    have f2 : ref06_Fits (Frac.mk (lowF (sumP (gN s w den) p) den).Num (lowF (sumP (gN s w den) p) den).Den) = some (okFb (lowF (sumP (gN s w den) p) den)) := rfl
    by_cases hf : okFb (lowF (sumP (gS s w den) p) den) = true ∧ okFb (lowF (sumP (gN s w den) p) den) = true
    · rw [if_pos hf, Option.bind_some, Option.bind_some, if_neg (by decide), Option.bind_some, if_neg (by decide), Option.bind_some]
      simp only
      rw [hd, if_neg (by decide), Option.bind_some]
      show (((ref06_Sum _ s w p false (den : Int)).bind _).bind _) = _
      rw [s1, s2, Option.bind_some, Option.bind_some, Option.bind_some]
      simp only
      rw [f1, f2, hf.1, hf.2, Option.bind_some, if_neg (by decide), Option.bind_some, Option.bind_some, if_neg (by decide)]
      simp only [beq_self_eq_true, Bool.and_true, if_true]
      rfl
    · rw [if_neg hf, Option.bind_some, Option.bind_some, if_neg (by decide), Option.bind_some, if_neg (by decide), Option.bind_some]
      simp only
      rw [hd, if_neg (by decide), Option.bind_some]
      show (((ref06_Sum _ s w p false (den : Int)).bind _).bind _) = _
      rw [s1, s2, Option.bind_some, Option.bind_some, Option.bind_some]
      simp only
      rw [f1, f2, Option.bind_some]
      cases h1 : okFb (lowF (sumP (gS s w den) p) den)
      · rfl
      · cases h2 : okFb (lowF (sumP (gN s w den) p) den)
        · rfl
        · exact absurd ⟨h1, h2⟩ hf
end Gp
set_option linter.unusedVariables false
set_option linter.unusedSimpArgs false
namespace Gp
open Gw Gq
end Gp
set_option linter.unusedVariables false
set_option linter.unusedSimpArgs false
namespace Gp
open Gw Gq
end Gp
