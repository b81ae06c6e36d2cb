/- The plain law: what the functions compute answers as the statement says. -/
import Derived.Test.YtfehljifahnipaaGreatDoorGp
import Derived.KernelRfl
import Derived.Lib.Mul64
set_option linter.unusedVariables false
set_option linter.unusedSimpArgs false
namespace Gq
open Go Gw Gp
/-! ### numbers and lists -/
theorem w64_id {n : Int} (h0 : -9223372036854775808 ≤ n) (h1 : n ≤ 9223372036854775807) : w64 n = n := by
  show IntKind.i64.wrap n = n
  have e : IntKind.i64.wrap n = if (true && decide (n % 18446744073709551616 ≥ 9223372036854775808)) = true then n % 18446744073709551616 - 18446744073709551616 else n % 18446744073709551616 := rfl
  rw [e]
  simp only [Bool.true_and, decide_eq_true_eq]
  split <;> omega
theorem rdD_nat {α : Type} (xs : List α) (i : Nat) (d : α) : rdD xs (i : Int) d = xs.getD i d := by simp [rdD]
theorem rdD_get {α : Type} {xs : List α} {i : Nat} (h : i < xs.length) (d : α) : rdD xs (i : Int) d = xs[i] := by
  simp [rdD, List.getD, List.getElem?_eq_getElem h]
def firstS {α β : Type} (g : Nat → α → Option β) : Nat → List α → Option β
  | _, [] => none
  | i, a :: r => match g i a with
    | some b => some b
    | none => firstS g (i + 1) r
def fin {β : Type} : Option β → Sum β Unit
  | some b => .inl b
  | none => .inr ()
theorem scan {α β : Type} {F : Nat → Int → Option (Sum β Unit)} {xs : List α} {g : Nat → α → Option β}
    (hF : ∀ k (i : Nat), i ≤ xs.length → F (k + 1) (i : Int) = if h : i < xs.length then (match g i xs[i] with | some b => some (.inl b) | none => F k ((i + 1 : Nat) : Int)) else some (.inr ())) :
    ∀ (n k i : Nat), i + n = xs.length → n < k → F k (i : Int) = some (fin (firstS g i (xs.drop i)))
  | 0, k, i, hi, hk => by
    obtain ⟨k, rfl⟩ : ∃ m, k = m + 1 := ⟨k - 1, by omega⟩
    have hi : i = xs.length := by omega
    subst hi
    rw [hF k _ (Nat.le_refl _), dif_neg (Nat.lt_irrefl _), List.drop_length]; rfl
  | n + 1, k, i, hi, hk => by
    obtain ⟨k, rfl⟩ : ∃ m, k = m + 1 := ⟨k - 1, by omega⟩
    have hlt : i < xs.length := by omega
    rw [hF k i (by omega), dif_pos hlt, List.drop_eq_getElem_cons hlt, firstS]
    cases hg : g i xs[i] with
    | some b => rfl
    | none => exact scan hF n k (i + 1) (by omega) (by omega)
end Gq
set_option linter.unusedVariables false
set_option linter.unusedSimpArgs false
namespace Gq
end Gq
namespace Gp
open Gw Gq
/-! ### the tiles of a machine -/
def hd (Y q s : Nat) : Int := ((Y + q * Y + s : Nat) : Int)
end Gp
set_option linter.unusedVariables false
set_option linter.unusedSimpArgs false
namespace Gq
end Gq
namespace Gp
open Gw Gq
/-! ### where the tiles of a machine lie -/
end Gp
set_option linter.unusedVariables false
set_option linter.unusedSimpArgs false
namespace Gp
open Gw Gq
/-! ### the tile that shows a cell of a step -/
theorem Tile.ext' {a b : Tile} (h1 : a.N = b.N) (h2 : a.E = b.E) (h3 : a.S = b.S) (h4 : a.W = b.W) : a = b := by
  cases a; cases b; simp only at h1 h2 h3 h4; subst h1 h2 h3 h4; rfl
end Gp
set_option linter.unusedVariables false
set_option linter.unusedSimpArgs false
namespace Gq
theorem loop_all {σ ρ τ : Type} {F : Nat → Int → σ → Option (Sum ρ τ)} {S : Nat → σ} {b : Nat → Bool} {n K : Nat} {r : ρ} {e : τ} (hs : ∀ k i, K ≤ k → i < n → F (k + 1) (i : Int) (S i) = if b i = true then F k ((i + 1 : Nat) : Int) (S (i + 1)) else some (.inl r)) (he : ∀ k, F (k + 1) (n : Int) (S n) = some (.inr e)) :
    ∀ k, n + K < k → F k 0 (S 0) = some (if (List.range n).all b = true then .inr e else .inl r) := by
  have key : ∀ d i k, i + d = n → d + K < k → F k (i : Int) (S i) = some (if (List.range' i d).all b = true then .inr e else .inl r) := by
    intro d
    induction d with
    | zero =>
      intro i k hi hk
      obtain ⟨k, rfl⟩ : ∃ m, k = m + 1 := ⟨k - 1, by omega⟩
      have : i = n := by omega
      subst this; rw [he]; rfl
    | succ d ih =>
      intro i k hi hk
      obtain ⟨k, rfl⟩ : ∃ m, k = m + 1 := ⟨k - 1, by omega⟩
      rw [hs k i (by omega) (by omega), List.range'_succ, List.all_cons]
      cases hb : b i
      · rfl
      · rw [if_pos rfl, ih (i + 1) k (by omega) (by omega)]; rfl
  intro k hk
  rw [List.range_eq_range']
  exact key n 0 k (by omega) hk
theorem firstS_ge' {α : Type} {p : α → Bool} : ∀ (xs : List α) (i : Nat), (match firstS (fun i a => if p a = true then none else some (i : Int)) i xs with
    | some x => decide (0 ≤ x)
    | none => false) = !xs.all p
  | [], i => rfl
  | a :: r, i => by
    rw [firstS]
    cases h : p a
    · simp [h]
    · simp only [if_true, List.all_cons, h, Bool.true_and]
      exact firstS_ge' r (i + 1)
end Gq
namespace Gp
open Gw Gq
/-! ### sets of tiles and patterns -/
def inCol (c : Int) : Bool := decide (0 ≤ c ∧ c < 1000)
def colB (t : Tile) : Bool := inCol t.N && inCol t.E && inCol t.S && inCol t.W
theorem idx_col (xs : List Int) (hl : xs.length ≤ 1000000) (k : Nat) (hk : xs.length < k) :
    slices_IndexFunc_int_int_with_tile_colour_1.l0 k 0 xs = some (fin (firstS (fun i a => if inCol a = true then none else some (i : Int)) 0 xs)) := by
  have := scan (F := fun k i => slices_IndexFunc_int_int_with_tile_colour_1.l0 k i xs) (xs := xs) (g := fun i a => if inCol a = true then none else some (i : Int)) (fun k i hi => by
    show slices_IndexFunc_int_int_with_tile_colour_1.l0 (k + 1) i xs = _
    rw [slices_IndexFunc_int_int_with_tile_colour_1.l0]
    by_cases h : i < xs.length
    · have h' : (i : Int) < (xs.length : Int) := by omega
      have h2 : 0 ≤ (i : Int) ∧ (i : Int) < (xs.length : Int) := by omega
      rw [dif_pos h, if_pos (by simpa using h'), if_pos h2, rdD_get h, tile_colour_1, w64_id (by omega) (by omega)]
      by_cases hb : 0 ≤ xs[i] ∧ xs[i] < 1000
      · have h3 : ¬ (xs[i] < 0 ∨ 1000 ≤ xs[i]) := by omega
        simp [inCol, hb]
        intro hh; exact absurd hh h3
      · have h3 : (xs[i] < 0 ∨ 1000 ≤ xs[i]) := by omega
        simp [inCol, hb, h3]
    · have h' : ¬ (i : Int) < (xs.length : Int) := by omega
      rw [dif_neg h, if_neg (by simpa using h')]) xs.length k 0 (by simp) hk
  simpa using this
theorem colour_eq (xs : List Int) (hl : xs.length ≤ 1000000) (k : Nat) (hk : xs.length < k) : tile_colour k xs = some (xs.all inCol) := by
  unfold tile_colour slices_ContainsFunc_int_int_with_tile_colour_1 slices_IndexFunc_int_int_with_tile_colour_1
  rw [idx_col xs hl k hk]
  have := firstS_ge' (p := inCol) xs 0
  cases hf : firstS (fun i a => if inCol a = true then none else some (i : Int)) 0 xs <;> rw [hf] at this <;> cases ha : xs.all inCol <;> rw [ha] at this <;> simp [fin, sumb] at this ⊢
  · exact this
  · exact this
def metS (set : List Tile) (i : Nat) : List (Tile × Bool) := (set.take i).map fun t => (t, true)
theorem mget_met (t : Tile) : ∀ l : List Tile, mget t false (l.map fun t => (t, true)) = decide (t ∈ l)
  | [] => rfl
  | a :: r => by
    simp only [List.map_cons, mget]
    by_cases h : t = a
    · simp [h]
    · rw [if_neg h, mget_met t r]; simp [h]
theorem mput_met (t : Tile) : ∀ l : List Tile, t ∉ l → mput t true (l.map fun t => (t, true)) = (l.map fun t => (t, true)) ++ [(t, true)]
  | [], _ => rfl
  | a :: r, h => by
    simp only [List.mem_cons, not_or] at h
    simp only [List.map_cons, mput, if_neg h.1, mput_met t r h.2, List.cons_append]
def newB (set : List Tile) (i : Nat) : Bool := !decide (set.getD i z_Tile ∈ set.take i) && colB (set.getD i z_Tile)
def validT (set : List Tile) : Bool := decide (set.length ≤ 1000) && (List.range set.length).all (newB set)
theorem tile_valid (set : List Tile) {k : Nat} (hk : 1006 ≤ k) (hl : set.length ≤ 9223372036854775807) : tile_Valid k set = some (validT set) := by
  unfold tile_Valid validT
  by_cases hb : set.length ≤ 1000
  · rw [if_neg (by simp; omega)]
    have := loop_all (F := fun k i (m : List (Tile × Bool)) => tile_Valid.l0 k m i set) (S := metS set) (b := newB set) (n := set.length) (K := 5) (r := false) (e := ()) (fun k i hk hi => by
      show tile_Valid.l0 (k + 1) (metS set i) i set = if newB set i = true then tile_Valid.l0 k (metS set (i + 1)) ((i + 1 : Nat) : Int) set else _
      rw [tile_Valid.l0, if_pos (by simpa using hi), if_pos (by omega), rdD_nat, metS, mget_met]
      have ht : set.getD i z_Tile = set[i] := by simp [List.getElem?_eq_getElem hi]
      unfold newB
      by_cases hm : set.getD i z_Tile ∈ set.take i
      · rw [if_pos (by simpa using hm), show decide (set.getD i z_Tile ∈ set.take i) = true from decide_eq_true hm]; rfl
      · rw [if_neg (by simpa using hm), colour_eq _ (by simp) k (by simp; omega), Option.bind_some, Option.bind_some]
        have hc : ([(set.getD i z_Tile).N, (set.getD i z_Tile).E, (set.getD i z_Tile).S, (set.getD i z_Tile).W].all inCol) = colB (set.getD i z_Tile) := by simp [colB, Bool.and_assoc]
        rw [hc]
        cases hcb : colB (set.getD i z_Tile)
        · simp
        · rw [mput_met _ _ hm, w64_id (by omega) (by omega)]
          simp only [hm, Bool.not_true, Bool.false_eq_true, if_false, decide_false, Bool.not_false, Bool.and_self, if_true]
          unfold metS
          rw [List.take_add_one, List.map_append, List.getElem?_eq_getElem hi, ht]; rfl) (fun k => by
      show tile_Valid.l0 (k + 1) (metS set set.length) set.length set = _
      rw [tile_Valid.l0, if_neg (by simp)]) k (by omega)
    have h0 : tile_Valid.l0 k [] 0 set = some (if (List.range set.length).all (newB set) = true then .inr () else .inl false) := this
    rw [h0]
    cases (List.range set.length).all (newB set) <;> simp [sumb, hb]
  · rw [if_pos (by simp; omega)]; simp [hb]
end Gp
set_option linter.unusedVariables false
set_option linter.unusedSimpArgs false
namespace Gp
open Gw Gq
/-! ### the pictures are patterns of the tiles -/
end Gp
set_option linter.unusedVariables false
set_option linter.unusedSimpArgs false
namespace Gq
end Gq
namespace Gp
open Gw Gq
/-! ### the patterns of the statements' own reference -/
end Gp
set_option linter.unusedVariables false
set_option linter.unusedSimpArgs false
namespace Gp
open Gw Gq
end Gp
set_option linter.unusedVariables false
set_option linter.unusedSimpArgs false
namespace Gp
open Gw Gq
/-! ### a torus, repeated -/
end Gp
set_option linter.unusedVariables false
set_option linter.unusedSimpArgs false
namespace Gp
open Gw Gq
/-! ### the first layer's reference -/
theorem colour01 (c : Int) : ref01_colour c = some (inCol c) := by
  unfold ref01_colour inCol
  by_cases h : 0 ≤ c ∧ c < 1000
  · simp [h]
  · rw [decide_eq_false h]
    congr 1
    cases h1 : decide (c ≥ 0)
    · rfl
    · have : ¬ c < 1000 := fun h2 => h ⟨by simpa using h1, h2⟩
      simp [this]
theorem index01 {set : List Tile} (hl : set.length ≤ 1000000) (t : Tile) {k : Nat} (hk : set.length < k) : ∃ r : Int, ref01_Index k set t = some r ∧ decide (r ≥ 0) = decide (t ∈ set) := by
  have := scan (F := fun k i => ref01_Index.l0 k i set t) (xs := set) (g := fun i a => if a = t then some (i : Int) else none) (fun k i hi => by
    show ref01_Index.l0 (k + 1) i set t = _
    rw [ref01_Index.l0]
    by_cases h : i < set.length
    · have h2 : 0 ≤ (i : Int) ∧ (i : Int) < (set.length : Int) := by omega
      rw [dif_pos h, if_pos (by simpa using h), if_pos h2, rdD_get h, w64_id (by omega) (by omega)]
      by_cases hb : set[i] = t
      · subst hb; simp
      · have : ((set[i].N == t.N) && ((set[i].E == t.E) && ((set[i].S == t.S) && (set[i].W == t.W)))) = false := by
          cases hc : ((set[i].N == t.N) && ((set[i].E == t.E) && ((set[i].S == t.S) && (set[i].W == t.W))))
          · rfl
          · simp only [Bool.and_eq_true, beq_iff_eq] at hc
            exact absurd (Tile.ext' hc.1 hc.2.1 hc.2.2.1 hc.2.2.2) hb
        rw [this, if_neg hb]; rfl
    · rw [dif_neg h, if_neg (by simpa using h)]) set.length k 0 (by simp) hk
  have h0 : ref01_Index.l0 k 0 set t = some (fin (firstS (fun i a => if a = t then some (i : Int) else none) 0 (set.drop 0))) := this
  rw [List.drop_zero] at h0
  have key : ∀ (l : List Tile) (i : Nat), match firstS (fun i a => if a = t then some (i : Int) else none) i l with
      | some x => decide (x ≥ 0) = decide (t ∈ l)
      | none => decide (t ∈ l) = false := by
    intro l
    induction l with
    | nil => intro i; simp [firstS]
    | cons a r ih =>
      intro i
      rw [firstS]
      by_cases ha : a = t
      · subst ha; simp
      · have hne : ¬ t = a := fun e => ha e.symm
        rw [if_neg ha]
        have := ih (i + 1)
        cases hf : firstS (fun i a => if a = t then some (i : Int) else none) (i + 1) r with
        | none => rw [hf] at this; simp only [List.mem_cons, hne, false_or]; exact this
        | some x => rw [hf] at this; simp only [List.mem_cons, hne, false_or]; exact this
  unfold ref01_Index
  rw [h0]
  have hk2 := key set 0
  cases hf : firstS (fun i a => if a = t then some (i : Int) else none) 0 set with
  | none => rw [hf] at hk2; exact ⟨-1, rfl, by rw [hk2]; rfl⟩
  | some x => rw [hf] at hk2; exact ⟨x, rfl, hk2⟩
theorem valid01 (set : List Tile) {k : Nat} (hk : 2002 < k) (hl : set.length ≤ 9223372036854775807) : ref01_Valid k set = some (validT set) := by
  unfold ref01_Valid validT
  by_cases hb : set.length ≤ 1000
  · rw [if_neg (by simp; omega)]
    have := loop_all (F := fun k i (_ : Unit) => ref01_Valid.l0 k i set) (S := fun _ => ()) (b := newB set) (n := set.length) (K := 1001) (r := false) (e := ()) (fun k i hk hi => by
      show ref01_Valid.l0 (k + 1) i set = if newB set i = true then ref01_Valid.l0 k ((i + 1 : Nat) : Int) set else _
      have hcut : cut set (0 : Int) (i : Int) = set.take i := by unfold cut; simp
      obtain ⟨r, hr, hd⟩ := index01 (set := set.take i) (by rw [List.length_take]; omega) (set.getD i z_Tile) (k := k) (by rw [List.length_take]; omega)
      rw [ref01_Valid.l0, if_pos (by simpa using hi), if_pos (by omega)]
      simp only [rdD_nat, colour01, Option.bind_some, hcut]
      rw [if_pos (⟨by omega, by omega, by omega⟩ : 0 ≤ (0 : Int) ∧ (0 : Int) ≤ (i : Int) ∧ (i : Int) ≤ (set.length : Int)), hr, w64_id (by omega) (by omega)]
      simp only [Option.bind_some, hd]
      unfold newB colB
      cases inCol (set.getD i z_Tile).N
      · simp
      · cases inCol (set.getD i z_Tile).E
        · simp
        · cases inCol (set.getD i z_Tile).S
          · simp
          · cases inCol (set.getD i z_Tile).W
            · simp
            · cases decide (set.getD i z_Tile ∈ set.take i) <;> simp) (fun k => by
      show ref01_Valid.l0 (k + 1) set.length set = _
      rw [ref01_Valid.l0, if_neg (by simp)]) k (by omega)
    have h0 : ref01_Valid.l0 k 0 set = some (if (List.range set.length).all (newB set) = true then .inr () else .inl false) := this
    rw [h0]
    cases (List.range set.length).all (newB set) <;> simp [sumb, hb]
  · rw [if_pos (by simp; omega)]; simp [hb]
end Gp
set_option linter.unusedVariables false
set_option linter.unusedSimpArgs false
namespace Gp
open Gw Gq
/-! ### grids: lists of rows -/
def grid (w h : Nat) (g : Nat → Nat → Int) : List Int := (List.range h).flatMap fun y => (List.range w).map (g y)
/-! ### stores into a list -/
def sets (l : List Int) (q : List (Nat × Int)) : List Int := q.foldl (fun l p => l.set p.1 p.2) l
/-! ### patterns that have the form of one -/
/-! ### the changed patterns -/
end Gp
set_option linter.unusedVariables false
set_option linter.unusedSimpArgs false
namespace Gp
open Gw Gq
/-! ### cuts -/
/-! ### patterns, repeated -/
/-! ### what is equal -/
end Gp
set_option linter.unusedVariables false
set_option linter.unusedSimpArgs false
namespace Gp
open Gw Gq
/-! ### changed sets -/
structure Chg (f : Tile → Tile) : Prop where
  inj : ∀ a b, f a = f b → a = b
  col : ∀ t, colB (f t) = colB t
theorem getD_map (f : Tile → Tile) {s : List Tile} {i : Nat} (h : i < s.length) : (s.map f).getD i z_Tile = f (s.getD i z_Tile) := by simp [List.getElem?_eq_getElem h]
theorem Chg.valid {f : Tile → Tile} (c : Chg f) {s : List Tile} (hv : validT s = true) : validT (s.map f) = true := by
  unfold validT at hv ⊢
  simp only [Bool.and_eq_true, decide_eq_true_eq, List.all_eq_true, List.mem_range, List.length_map] at hv ⊢
  refine ⟨hv.1, fun i hi => ?_⟩
  have := hv.2 i hi
  unfold newB at this ⊢
  rw [getD_map f hi, ← List.map_take, c.col]
  simp only [Bool.and_eq_true, Bool.not_eq_true', decide_eq_false_iff_not] at this ⊢
  refine ⟨fun hm => this.1 ?_, this.2⟩
  obtain ⟨a, ha, he⟩ := List.mem_map.1 hm
  rw [← c.inj _ _ he]; exact ha
/-! ### how the tiles of a grid meet -/
def JP (W H : Nat) (round : Bool) (T : Nat → Nat → Tile) : Prop :=
  (∀ y x, y < H → x < W → (x + 1 < W ∨ round = true) → (T y x).E = (T y ((x + 1) % W)).W) ∧ (∀ y x, y < H → x < W → (y + 1 < H ∨ round = true) → (T y x).N = (T ((y + 1) % H) x).S)
theorem JP.congr {W H : Nat} {round : Bool} {T T' : Nat → Nat → Tile} (he : ∀ y x, y < H → x < W → T y x = T' y x) (h : JP W H round T) : JP W H round T' := by
  refine ⟨fun y x hy hx hr => ?_, fun y x hy hx hr => ?_⟩
  · rw [← he y x hy hx, ← he y _ hy (Nat.mod_lt _ (by omega))]; exact h.1 y x hy hx hr
  · rw [← he y x hy hx, ← he _ x (Nat.mod_lt _ (by omega)) hx]; exact h.2 y x hy hx hr
def TT (s : List Tile) (c : Nat → Nat → Int) (y x : Nat) : Tile := s.getD (c y x).toNat z_Tile
structure GOK (s : List Tile) (W H : Nat) (c : Nat → Nat → Int) (whole : Bool) : Prop where
  valid : validT s = true
  dW : 1 ≤ W ∧ W ≤ 40000
  dH : 1 ≤ H ∧ H ≤ 40000
  wh : H * W ≤ 40000
  cel : ∀ y x, y < H → x < W → 0 ≤ c y x ∧ c y x < (s.length : Int)
  fits : JP W H false (TT s c)
  round : whole = true ↔ JP W H true (TT s c)
theorem GOK.congr {s : List Tile} {W H : Nat} {c c' : Nat → Nat → Int} {whole : Bool} (g : GOK s W H c whole) (he : ∀ y x, y < H → x < W → c y x = c' y x) : GOK s W H c' whole := by
  have ht : ∀ y x, y < H → x < W → TT s c y x = TT s c' y x := fun y x hy hx => by unfold TT; rw [he y x hy hx]
  exact ⟨g.valid, g.dW, g.dH, g.wh, fun y x hy hx => by rw [← he y x hy hx]; exact g.cel y x hy hx, g.fits.congr ht, g.round.trans ⟨fun h => h.congr ht, fun h => h.congr (fun y x hy hx => (ht y x hy hx).symm)⟩⟩
/-! mirrored -/
end Gp
set_option linter.unusedVariables false
set_option linter.unusedSimpArgs false
namespace Gp
open Gw Gq
theorem JP.part {W H : Nat} {T : Nat → Nat → Tile} (h : JP W H false T) {x y w h' : Nat} (hx : x + w ≤ W) (hy : y + h' ≤ H) : JP w h' false (fun j i => T (y + j) (x + i)) := by
  refine ⟨fun j i hj hi hr => ?_, fun j i hj hi hr => ?_⟩
  · have h1 : i + 1 < w := by simpa using hr
    have := h.1 (y + j) (x + i) (by omega) (by omega) (.inl (by omega))
    rw [Nat.mod_eq_of_lt (show x + i + 1 < W by omega)] at this
    rw [Nat.mod_eq_of_lt h1]; exact this
  · have h1 : j + 1 < h' := by simpa using hr
    have := h.2 (y + j) (x + i) (by omega) (by omega) (.inl (by omega))
    rw [Nat.mod_eq_of_lt (show y + j + 1 < H by omega)] at this
    rw [Nat.mod_eq_of_lt h1]; exact this
end Gp
set_option linter.unusedVariables false
set_option linter.unusedSimpArgs false
namespace Gq
end Gq
namespace Gp
open Gw Gq
/-! ### words, rows -/
def tat (set : List Tile) (i : Nat) : Tile := set.getD i z_Tile
/-! few -/
end Gp
set_option linter.unusedVariables false
set_option linter.unusedSimpArgs false
namespace Gq
open Gw
end Gq
namespace Gp
open Gw Gq
/-! ### rectangles that are filled -/
end Gp
set_option linter.unusedVariables false
set_option linter.unusedSimpArgs false
namespace Gp
open Gw Gq
/-! the whole function -/
end Gp
set_option linter.unusedVariables false
set_option linter.unusedSimpArgs false
namespace Gp
open Gw Gq
/-! ### rows and patterns -/
end Gp
set_option linter.unusedVariables false
set_option linter.unusedSimpArgs false
namespace Gp
open Gw Gq
/-! ### squares -/
end Gp
set_option linter.unusedVariables false
set_option linter.unusedSimpArgs false
namespace Gp
open Gw Gq
/-! ### tori -/
end Gp
set_option linter.unusedVariables false
set_option linter.unusedSimpArgs false
namespace Gp
open Gw Gq
/-! tori and patterns -/
end Gp
set_option linter.unusedVariables false
set_option linter.unusedSimpArgs false
namespace Gp
open Gw Gq
end Gp
set_option linter.unusedVariables false
set_option linter.unusedSimpArgs false
namespace Gp
open Gw Gq
/-! ### three tiles: a torus, or no square of side four -/
/-! masks of a set -/
def hR (set : List Tile) (i j : Nat) : Bool := decide (i < set.length ∧ j < set.length ∧ (tat set i).E = (tat set j).W)
end Gp
set_option linter.unusedVariables false
set_option linter.unusedSimpArgs false
namespace Gp
open Gw Gq
/-! ### the least torus -/
/-! ### the decision -/
end Gp
set_option linter.unusedVariables false
set_option linter.unusedSimpArgs false
namespace Gp
open Gw Gq
/-! ### fillings as grids; turned and renamed sets -/
end Gp
set_option linter.unusedVariables false
set_option linter.unusedSimpArgs false
namespace Gp
open Gw Gq
/-! ### a set with one tile more -/
end Gp
set_option linter.unusedVariables false
set_option linter.unusedSimpArgs false
namespace Gp
open Gw Gq
end Gp
set_option linter.unusedVariables false
set_option linter.unusedSimpArgs false
namespace KD
theorem est_gt {B v1 v0 u32 u1 q r : Nat} (h : q * v1 + r = u32) (ht : B ≤ q ∨ B * r + u1 < q * v0) (hV : u32 < v1 * B + v0) (hu1 : u1 < B) : (u32 * B + u1) / (v1 * B + v0) < q := by
  have hpos : 0 < v1 * B + v0 := by omega
  rw [Nat.div_lt_iff_lt_mul hpos]
  rcases ht with ht | ht
  · have h1 : (u32 + 1) * B ≤ (v1 * B + v0) * B := Nat.mul_le_mul_right B hV
    have h2 : (v1 * B + v0) * B ≤ q * (v1 * B + v0) := by rw [Nat.mul_comm]; exact Nat.mul_le_mul_right _ ht
    rw [Nat.add_mul, Nat.one_mul] at h1
    omega
  · have h1 : q * v1 * B + r * B = u32 * B := by rw [← Nat.add_mul, h]
    have h2 : q * (v1 * B + v0) = q * v1 * B + q * v0 := by rw [Nat.mul_add, Nat.mul_assoc]
    rw [Nat.mul_comm B r] at ht
    omega
theorem est_le {B v1 v0 u32 u1 q r : Nat} (h : q * v1 + r = u32) (ht : q * v0 ≤ B * r + u1) (hpos : 0 < v1 * B + v0) : q ≤ (u32 * B + u1) / (v1 * B + v0) := by
  rw [Nat.le_div_iff_mul_le hpos]
  have h1 : q * v1 * B + r * B = u32 * B := by rw [← Nat.add_mul, h]
  have h2 : q * (v1 * B + v0) = q * v1 * B + q * v0 := by rw [Nat.mul_add, Nat.mul_assoc]
  rw [Nat.mul_comm B r] at ht
  omega
theorem est_0 {B v1 v0 u32 u1 : Nat} (hv : 0 < v1) (hu1 : u1 < B) : (u32 * B + u1) / (v1 * B + v0) ≤ u32 / v1 := by
  rw [Nat.le_div_iff_mul_le hv]
  have hB : 0 < B := by omega
  have hpos : 0 < v1 * B + v0 := by have := Nat.mul_pos hv hB; omega
  have h1 := Nat.div_mul_le_self (u32 * B + u1) (v1 * B + v0)
  generalize (u32 * B + u1) / (v1 * B + v0) = Q at *
  have h2 : Q * (v1 * B + v0) = Q * v1 * B + Q * v0 := by rw [Nat.mul_add, Nat.mul_assoc]
  have h3 : Q * v1 * B < (u32 + 1) * B := by rw [Nat.add_mul, Nat.one_mul]; omega
  have := Nat.lt_of_mul_lt_mul_right h3
  omega
theorem est_top {B v1 v0 u32 q r : Nat} (h : q * v1 + r = u32) (hV : u32 < v1 * B + v0) (hv0 : v0 < B) (hv1 : B ≤ 2 * v1) : q ≤ B + 1 := by
  have h1 : q * v1 < (B + 2) * v1 := by
    rw [Nat.add_mul, Nat.mul_comm B v1]; omega
  have := Nat.lt_of_mul_lt_mul_right h1
  omega
end KD
namespace CR
theorem crt {a b c : Nat} (hab : Nat.Coprime a b) (hac : Nat.Coprime a c) (hbc : Nat.Coprime b c) {D : Int} (ha : D % (a : Int) = 0) (hb : D % (b : Int) = 0) (hc : D % (c : Int) = 0) (hD : D.natAbs < a * b * c) : D = 0 := by
  have d1 : a ∣ D.natAbs := by have := Int.natAbs_dvd_natAbs.2 (Int.dvd_of_emod_eq_zero ha); simpa using this
  have d2 : b ∣ D.natAbs := by have := Int.natAbs_dvd_natAbs.2 (Int.dvd_of_emod_eq_zero hb); simpa using this
  have d3 : c ∣ D.natAbs := by have := Int.natAbs_dvd_natAbs.2 (Int.dvd_of_emod_eq_zero hc); simpa using this
  have d4 : a * b ∣ D.natAbs := hab.mul_dvd_of_dvd_of_dvd d1 d2
  have d5 : a * b * c ∣ D.natAbs := (Nat.Coprime.mul_left hac hbc).mul_dvd_of_dvd_of_dvd d4 d3
  have := Nat.eq_zero_of_dvd_of_lt d5 hD
  omega
theorem moduli_coprime : Nat.Coprime 2305843009213693951 2305843009213693921 ∧ Nat.Coprime 2305843009213693951 2305843009213693907 ∧ Nat.Coprime 2305843009213693921 2305843009213693907 := by
  refine ⟨?_, ?_, ?_⟩ <;> decide +kernel
end CR

namespace Gp
open Gw Gq
theorem u64w {n : Nat} (h : n < 18446744073709551616) : Go.IntKind.wrap .u64 (n : Int) = n := by
  simp [Go.IntKind.wrap, Go.IntKind.bits, Go.IntKind.signed]; omega
theorem u64m (x : Int) : Go.IntKind.wrap .u64 x = x % 18446744073709551616 := by
  simp [Go.IntKind.wrap, Go.IntKind.bits, Go.IntKind.signed]
theorem bvN {n : Nat} : (BitVec.ofInt 64 (n : Int)).toNat = n % 18446744073709551616 := by
  rw [BitVec.toNat_ofInt]
  show ((n : Int) % ((2 ^ 64 : Nat) : Int)).toNat = _
  have : ((2 ^ 64 : Nat) : Int) = 18446744073709551616 := by decide
  rw [this]; omega
theorem shrW (a n : Nat) : shrV (a : Int) (n : Int) = ((a / 2 ^ n : Nat) : Int) := by
  unfold shrV
  rw [Int.toNat_natCast, Int.fdiv_eq_ediv_of_nonneg _ (by exact Int.le_of_lt (Int.pow_pos (by decide)))]
  simp
theorem sh32 (a : Nat) : shrV (a : Int) 32 = ((a / 4294967296 : Nat) : Int) := shrW a 32
theorem an32 {a : Nat} (ha : a < 18446744073709551616) : andV (a : Int) 4294967295 = ((a % 4294967296 : Nat) : Int) := by
  have e1 : (BitVec.ofInt 64 (4294967295 : Int)).toNat = 4294967295 := by decide
  unfold andV
  rw [BitVec.toNat_and, bvN, e1, Nat.mod_eq_of_lt ha, show 4294967295 = 2 ^ 32 - 1 by rfl, Nat.and_two_pow_sub_one_eq_mod, u64w (by have : a % 2 ^ 32 < 2 ^ 32 := Nat.mod_lt _ (by decide); omega)]
theorem mulN' (a b : Nat) : (a : Int) * (b : Int) = ((a * b : Nat) : Int) := (Int.natCast_mul a b).symm
theorem addN' (a b : Nat) : (a : Int) + (b : Int) = ((a + b : Nat) : Int) := (Int.natCast_add a b).symm
theorem mul64_eq {x y : Nat} (hx : x < 18446744073709551616) (hy : y < 18446744073709551616) : bits_Mul64 (x : Int) (y : Int) = some (((x * y / 18446744073709551616 : Nat) : Int), ((x * y % 18446744073709551616 : Nat) : Int)) := by
  obtain ⟨bd, bt, bw, hhi⟩ := Go.Lib.mul64_hi x y hx hy
  have ba := Go.Lib.half_mul_le (a := x / 4294967296) (b := y / 4294967296) (by omega) (by omega)
  have bb := Go.Lib.half_mul_le (a := x / 4294967296) (b := y % 4294967296) (by omega) (by omega)
  have bc := Go.Lib.half_mul_le (a := x % 4294967296) (b := y / 4294967296) (by omega) (by omega)
  unfold bits_Mul64
  simp only [sh32, an32 hx, an32 hy, mulN']
  rw [u64w (n := x / 4294967296 * (y / 4294967296)) (by omega), u64w (n := x / 4294967296 * (y % 4294967296)) (by omega), u64w (n := x % 4294967296 * (y % 4294967296)) (by omega), u64w (n := x % 4294967296 * (y / 4294967296)) (by omega)]
  simp only [sh32, addN']
  rw [u64w bt]
  simp only [sh32, an32 bt, addN']
  rw [u64w bw]
  simp only [sh32, addN']
  rw [u64w (n := x / 4294967296 * (y / 4294967296) + (x / 4294967296 * (y % 4294967296) + x % 4294967296 * (y % 4294967296) / 4294967296) / 4294967296) (by omega), addN', hhi, u64w (n := x * y / 18446744073709551616) (by have := Nat.div_lt_of_lt_mul (m := x * y) (n := 18446744073709551616) (k := 18446744073709551616) (Nat.mul_lt_mul'' hx hy); exact this), u64m]
  congr 2
set_option maxRecDepth 100000 in
theorem len61 {y : Nat} (h0 : 1152921504606846976 ≤ y) (h1 : y < 2305843009213693952) : bits_LeadingZeros64 (y : Int) = some 3 := by
  have hl : bits_Len64 (y : Int) = some 61 := by
    unfold bits_Len64
    rw [if_pos (decide_eq_true (by omega)), Option.bind_some]
    simp only
    rw [sh32, if_pos (decide_eq_true (by omega)), Option.bind_some]
    simp only
    have e16 : shrV ((y / 4294967296 : Nat) : Int) 16 = ((y / 4294967296 / 65536 : Nat) : Int) := shrW _ 16
    rw [e16, if_pos (decide_eq_true (by omega)), Option.bind_some]
    simp only
    have e8 : shrV ((y / 4294967296 / 65536 : Nat) : Int) 8 = ((y / 4294967296 / 65536 / 256 : Nat) : Int) := shrW _ 8
    rw [e8]
    have h3 : 16 ≤ y / 4294967296 / 65536 / 256 ∧ y / 4294967296 / 65536 / 256 < 32 := by omega
    generalize y / 4294967296 / 65536 / 256 = z at h3 ⊢
    have hz : z = 16 ∨ z = 17 ∨ z = 18 ∨ z = 19 ∨ z = 20 ∨ z = 21 ∨ z = 22 ∨ z = 23 ∨ z = 24 ∨ z = 25 ∨ z = 26 ∨ z = 27 ∨ z = 28 ∨ z = 29 ∨ z = 30 ∨ z = 31 := by omega
    rcases hz with h | h | h | h | h | h | h | h | h | h | h | h | h | h | h | h <;> subst h <;> decide +kernel
  unfold bits_LeadingZeros64
  rw [hl]; rfl
end Gp
set_option linter.unusedVariables false
set_option linter.unusedSimpArgs false
namespace Gp
open Gw Gq
theorem shl3 {a : Nat} : shlV (a : Int) 3 = ((a * 8 % 18446744073709551616 : Nat) : Int) := by
  unfold shlV
  rw [show ((3 : Int).toNat) = 3 by rfl, show ((2 : Int) ^ 3) = 8 by rfl, u64m]
  omega
theorem sh61 (a : Nat) : shrV (a : Int) 61 = ((a / 2305843009213693952 : Nat) : Int) := shrW a 61
theorem sh3 (a : Nat) : shrV (a : Int) 3 = ((a / 8 : Nat) : Int) := shrW a 3
theorem or3 {a b : Nat} (ha : a * 8 < 18446744073709551616) (hb : b < 8) : orV ((a * 8 : Nat) : Int) (b : Int) = ((a * 8 + b : Nat) : Int) := by
  unfold orV
  rw [BitVec.toNat_or, bvN, bvN, Nat.mod_eq_of_lt ha, Nat.mod_eq_of_lt (by omega)]
  have h := Nat.shiftLeft_add_eq_or_of_lt (i := 3) (b := b) hb a
  rw [Nat.shiftLeft_eq] at h
  have e : a * 8 ||| b = a * 8 + b := h.symm
  rw [e, u64w (by omega)]
theorem div_loop {V u u1 q r : Nat} (hV0 : 9223372036854775808 ≤ V) (hV1 : V < 18446744073709551616) (hu : u < V) (hu1 : u1 < 4294967296) (h : q * (V / 4294967296) + r = u) (hr : r < 4294967296) :
    q ≤ 4294967297 ∧ q * (V % 4294967296) < 18446744073709551616 ∧ 4294967296 * r + u1 < 18446744073709551616 ∧
    ((4294967296 ≤ q ∨ 4294967296 * r + u1 < q * (V % 4294967296)) → (u * 4294967296 + u1) / V < q ∧ (q - 1) * (V / 4294967296) + (r + V / 4294967296) = u ∧ (4294967296 ≤ r + V / 4294967296 → q - 1 ≤ (u * 4294967296 + u1) / V)) ∧
    (¬ (4294967296 ≤ q ∨ 4294967296 * r + u1 < q * (V % 4294967296)) → q ≤ (u * 4294967296 + u1) / V) := by
  have eV : V / 4294967296 * 4294967296 + V % 4294967296 = V := by rw [Nat.mul_comm]; exact Nat.div_add_mod V 4294967296
  generalize hv1 : V / 4294967296 = v1 at *
  generalize hv0 : V % 4294967296 = v0 at *
  have b1 : v1 < 4294967296 := by omega
  have b0 : v0 < 4294967296 := by omega
  have b2 : 4294967296 ≤ 2 * v1 := by omega
  have hq := KD.est_top (B := 4294967296) h (by omega) b0 b2
  have hm : q * v0 ≤ 4294967297 * 4294967295 := Nat.mul_le_mul hq (by omega)
  refine ⟨hq, by omega, by omega, fun ht => ?_, fun ht => ?_⟩
  · have g := KD.est_gt (B := 4294967296) h ht (by omega) hu1
    rw [eV] at g
    have hq0 : 0 < q := Nat.lt_of_le_of_lt (Nat.zero_le _) g
    obtain ⟨p, rfl⟩ : ∃ p, q = p + 1 := ⟨q - 1, by omega⟩
    have e2 : p * v1 + (r + v1) = u := by rw [Nat.add_mul, Nat.one_mul] at h; omega
    refine ⟨g, e2, fun hb => ?_⟩
    have hle := KD.est_le (B := 4294967296) (u1 := u1) (v0 := v0) e2 (by
      have h1 : p * v0 ≤ 4294967296 * 4294967295 := Nat.mul_le_mul (by omega) (by omega)
      have h2 : 4294967296 * 4294967296 ≤ 4294967296 * (r + v1) := Nat.mul_le_mul_left _ hb
      omega) (by omega)
    rw [eV] at hle
    exact hle
  · have hle := KD.est_le (B := 4294967296) (u1 := u1) (v0 := v0) h (by omega) (by omega)
    rw [eV] at hle
    exact hle
theorem div_l0 {V y lo u : Nat} (hV0 : 9223372036854775808 ≤ V) (hV1 : V < 18446744073709551616) (hy : shlV (y : Int) 3 = (V : Int)) (hu : u < V) {x : Nat} (hx : shlV (lo : Int) 3 = (x : Int)) (hx1 : x < 18446744073709551616) :
    ∀ (k q r : Nat), q * (V / 4294967296) + r = u → r < 4294967296 → (u * 4294967296 + x / 4294967296) / V ≤ q → q < k + (u * 4294967296 + x / 4294967296) / V → bits_Div64.l0 k (q : Int) (r : Int) (lo : Int) (y : Int) 3 = some (((u * 4294967296 + x / 4294967296) / V : Nat) : Int)
  | 0, q, r, h, hr, hQ, hk => by omega
  | k + 1, q, r, h, hr, hQ, hk => by
    obtain ⟨l1, l2, l3, l4, l5⟩ := div_loop hV0 hV1 hu (u1 := x / 4294967296) (by omega) h hr
    have ew : Go.IntKind.wrap .u64 3 = 3 := by decide
    have c1 : Go.IntKind.wrap .u64 ((q : Int) * andV (V : Int) 4294967295) = ((q * (V % 4294967296) : Nat) : Int) := by rw [an32 hV1, mulN', u64w l2]
    have c2 : Go.IntKind.wrap .u64 (Go.IntKind.wrap .u64 (4294967296 * (r : Int)) + shrV (x : Int) 32) = ((4294967296 * r + x / 4294967296 : Nat) : Int) := by
      rw [show (4294967296 : Int) = ((4294967296 : Nat) : Int) by rfl, mulN', u64w (by omega), sh32, addN', u64w l3]
    rw [bits_Div64.l0, ew, hy, hx, c1, c2]
    by_cases ht : 4294967296 ≤ q ∨ 4294967296 * r + x / 4294967296 < q * (V % 4294967296)
    · obtain ⟨g1, g2, g3⟩ := l4 ht
      have hq0 : 0 < q := Nat.lt_of_le_of_lt (Nat.zero_le _) g1
      have c3 : Go.IntKind.wrap .u64 ((r : Int) + shrV (V : Int) 32) = ((r + V / 4294967296 : Nat) : Int) := by rw [sh32, addN', u64w (by omega)]
      have c4 : Go.IntKind.wrap .u64 ((q : Int) - 1) = ((q - 1 : Nat) : Int) := by rw [show (q : Int) - 1 = ((q - 1 : Nat) : Int) by omega, u64w (by omega)]
      rw [if_pos (by rw [Bool.or_eq_true, decide_eq_true_eq, decide_eq_true_eq]; omega), c3, c4]
      by_cases hb : 4294967296 ≤ r + V / 4294967296
      · rw [if_pos (decide_eq_true (by omega))]
        rw [Nat.le_antisymm (g3 hb) (Nat.le_sub_one_of_lt g1)]
      · rw [if_neg (by rw [decide_eq_true_eq]; omega)]
        exact div_l0 hV0 hV1 hy hu hx hx1 k (q - 1) _ g2 (by omega) (by omega) (by omega)
    · rw [if_neg (by rw [Bool.or_eq_true, decide_eq_true_eq, decide_eq_true_eq]; omega)]
      rw [Nat.le_antisymm (l5 ht) hQ]
theorem div_l1 {V y lo u : Nat} (hV0 : 9223372036854775808 ≤ V) (hV1 : V < 18446744073709551616) (hy : shlV (y : Int) 3 = (V : Int)) (hu : u < V) {x : Nat} (hx : shlV (lo : Int) 3 = (x : Int)) (hx1 : x < 18446744073709551616) :
    ∀ (k q r : Nat), q * (V / 4294967296) + r = u → r < 4294967296 → (u * 4294967296 + x % 4294967296) / V ≤ q → q < k + (u * 4294967296 + x % 4294967296) / V → bits_Div64.l1 k (r : Int) (q : Int) (lo : Int) (y : Int) 3 = some (((u * 4294967296 + x % 4294967296) / V : Nat) : Int)
  | 0, q, r, h, hr, hQ, hk => by omega
  | k + 1, q, r, h, hr, hQ, hk => by
    obtain ⟨l1, l2, l3, l4, l5⟩ := div_loop hV0 hV1 hu (u1 := x % 4294967296) (by omega) h hr
    have ew : Go.IntKind.wrap .u64 3 = 3 := by decide
    have c1 : Go.IntKind.wrap .u64 ((q : Int) * andV (V : Int) 4294967295) = ((q * (V % 4294967296) : Nat) : Int) := by rw [an32 hV1, mulN', u64w l2]
    have c2 : Go.IntKind.wrap .u64 (Go.IntKind.wrap .u64 (4294967296 * (r : Int)) + andV (x : Int) 4294967295) = ((4294967296 * r + x % 4294967296 : Nat) : Int) := by
      rw [show (4294967296 : Int) * (r : Int) = ((4294967296 * r : Nat) : Int) from mulN' 4294967296 r, u64w (by omega), an32 hx1, addN', u64w l3]
    rw [bits_Div64.l1, ew, hy, hx, c1, c2]
    by_cases ht : 4294967296 ≤ q ∨ 4294967296 * r + x % 4294967296 < q * (V % 4294967296)
    · obtain ⟨g1, g2, g3⟩ := l4 ht
      have hq0 : 0 < q := Nat.lt_of_le_of_lt (Nat.zero_le _) g1
      have c3 : Go.IntKind.wrap .u64 ((r : Int) + shrV (V : Int) 32) = ((r + V / 4294967296 : Nat) : Int) := by rw [sh32, addN', u64w (by omega)]
      have c4 : Go.IntKind.wrap .u64 ((q : Int) - 1) = ((q - 1 : Nat) : Int) := by rw [show (q : Int) - 1 = ((q - 1 : Nat) : Int) by omega, u64w (by omega)]
      rw [if_pos (by rw [Bool.or_eq_true, decide_eq_true_eq, decide_eq_true_eq]; omega), c3, c4]
      by_cases hb : 4294967296 ≤ r + V / 4294967296
      · rw [if_pos (decide_eq_true (by omega))]
        rw [Nat.le_antisymm (g3 hb) (Nat.le_sub_one_of_lt g1)]
      · rw [if_neg (by rw [decide_eq_true_eq]; omega)]
        exact div_l1 hV0 hV1 hy hu hx hx1 k (q - 1) _ g2 (by omega) (by omega) (by omega)
    · rw [if_neg (by rw [Bool.or_eq_true, decide_eq_true_eq, decide_eq_true_eq]; omega)]
      rw [Nat.le_antisymm (l5 ht) hQ]
end Gp
set_option linter.unusedVariables false
set_option linter.unusedSimpArgs false
namespace Gp
open Gw Gq
theorem u64sub {a b c d : Nat} (h : a * 4294967296 + b = c + d) (hd : d < 18446744073709551616) : Go.IntKind.wrap .u64 (Go.IntKind.wrap .u64 (Go.IntKind.wrap .u64 ((a : Int) * 4294967296) + (b : Int)) - Go.IntKind.wrap .u64 (c : Int)) = (d : Int) := by
  rw [u64m, u64m, u64m, u64m]
  omega
theorem div_fin {hi lo u x P1 P0 U R : Nat} (hu : u = hi * 8 + lo / 2305843009213693952) (hx : x = lo * 8 % 18446744073709551616) (d1 : u * 4294967296 + x / 4294967296 = P1 + U) (d2 : U * 4294967296 + x % 4294967296 = P0 + R) : (hi * 18446744073709551616 + lo) * 8 = P1 * 4294967296 + P0 + R := by omega
theorem u64est {u v q : Nat} (hu : u < 18446744073709551616) : Go.IntKind.wrap .u64 (Int.tdiv (u : Int) (v : Int)) = ((u / v : Nat) : Int) ∧ Go.IntKind.wrap .u64 ((u : Int) - Go.IntKind.wrap .u64 (((u / v : Nat) : Int) * (v : Int))) = ((u % v : Nat) : Int) := by
  have h1 : Int.tdiv (u : Int) (v : Int) = ((u / v : Nat) : Int) := rfl
  have h2 : u / v ≤ u := Nat.div_le_self _ _
  have h3 : u / v * v ≤ u := Nat.div_mul_le_self _ _
  have h4 := Nat.div_add_mod u v
  rw [Nat.mul_comm] at h4
  refine ⟨by rw [h1, u64w (by omega)], ?_⟩
  rw [mulN', u64w (by omega), show (u : Int) - ((u / v * v : Nat) : Int) = ((u % v : Nat) : Int) by omega, u64w (by have := Nat.mod_le u v; omega)]
set_option maxRecDepth 10000 in
theorem div64_eq {hi lo y : Nat} (h0 : 1152921504606846976 ≤ y) (h1 : y < 2305843009213693952) (hhi : hi < y) (hlo : lo < 18446744073709551616) {k : Nat} (hk : 4294967300 < k) : ∃ q, bits_Div64 k (hi : Int) (lo : Int) (y : Int) = some (q, (((hi * 18446744073709551616 + lo) % y : Nat) : Int)) := by
  unfold bits_Div64
  rw [if_neg (by rw [beq_iff_eq]; omega), if_neg (by rw [decide_eq_true_eq]; omega)]
  by_cases hz : hi = 0
  · subst hz
    rw [if_pos (by decide), if_pos (by omega)]
    refine ⟨Go.IntKind.wrap .u64 (Int.tdiv (lo : Int) (y : Int)), ?_⟩
    rw [Nat.zero_mul, Nat.zero_add]
    rfl
  · rw [if_neg (by rw [beq_iff_eq]; omega), len61 h0 h1, Option.bind_some]
    have e3 : Go.IntKind.wrap .u64 3 = 3 := by decide
    have e61 : Go.IntKind.wrap .u64 (64 - 3) = 61 := by decide
    obtain ⟨V, hV⟩ : ∃ V, V = y * 8 := ⟨_, rfl⟩
    obtain ⟨x, hx⟩ : ∃ x, x = lo * 8 % 18446744073709551616 := ⟨_, rfl⟩
    obtain ⟨u, hu⟩ : ∃ u, u = hi * 8 + lo / 2305843009213693952 := ⟨_, rfl⟩
    have sy : shlV (y : Int) 3 = (V : Int) := by rw [shl3, Nat.mod_eq_of_lt (by omega), hV]
    have sl : shlV (lo : Int) 3 = (x : Int) := by rw [shl3, hx]
    have su : orV (shlV (hi : Int) 3) (shrV (lo : Int) 61) = (u : Int) := by rw [shl3, Nat.mod_eq_of_lt (by omega), sh61, or3 (by omega) (by omega), hu]
    have hx1 : x < 18446744073709551616 := by omega
    have hV0 : 9223372036854775808 ≤ V := by omega
    have hV1 : V < 18446744073709551616 := by omega
    have huV : u < V := by omega
    rw [e3, e61, if_pos (by decide), if_pos (by decide), sy, sl, su, sh32, if_pos (by omega)]
    obtain ⟨a1, a2⟩ := u64est (u := u) (v := V / 4294967296) (q := 0) (by omega)
    rw [a1, a2]
    have em : u / (V / 4294967296) * (V / 4294967296) + u % (V / 4294967296) = u := by rw [Nat.mul_comm]; exact Nat.div_add_mod _ _
    have hr : u % (V / 4294967296) < 4294967296 := Nat.lt_of_lt_of_le (Nat.mod_lt _ (by omega)) (by omega)
    have eV : V / 4294967296 * 4294967296 + V % 4294967296 = V := by rw [Nat.mul_comm]; exact Nat.div_add_mod V 4294967296
    have hQ := KD.est_0 (B := 4294967296) (v1 := V / 4294967296) (v0 := V % 4294967296) (u32 := u) (u1 := x / 4294967296) (by omega) (by omega)
    rw [eV] at hQ
    have hq1 := (div_loop hV0 hV1 huV (u1 := x / 4294967296) (by omega) em hr).1
    rw [div_l0 hV0 hV1 sy huV sl hx1 k _ _ em hr hQ (Nat.lt_of_lt_of_le (Nat.lt_of_le_of_lt hq1 (by omega)) (Nat.le_add_right _ _)), Option.bind_some]
    obtain ⟨Q1, hQ1⟩ : ∃ Q, Q = (u * 4294967296 + x / 4294967296) / V := ⟨_, rfl⟩
    obtain ⟨U, hU⟩ : ∃ U, U = (u * 4294967296 + x / 4294967296) % V := ⟨_, rfl⟩
    have d1 : u * 4294967296 + x / 4294967296 = Q1 * V + U := by rw [hQ1, hU, Nat.mul_comm _ V]; exact (Nat.div_add_mod _ _).symm
    have hUV : U < V := by rw [hU]; exact Nat.mod_lt _ (by omega)
    rw [← hQ1, sh32, mulN' Q1 V, u64sub d1 (by omega)]
    obtain ⟨b1, b2⟩ := u64est (u := U) (v := V / 4294967296) (q := 0) (by omega)
    rw [b1, b2]
    have em2 : U / (V / 4294967296) * (V / 4294967296) + U % (V / 4294967296) = U := by rw [Nat.mul_comm]; exact Nat.div_add_mod _ _
    have hr2 : U % (V / 4294967296) < 4294967296 := Nat.lt_of_lt_of_le (Nat.mod_lt _ (by omega)) (by omega)
    have hQ2 := KD.est_0 (B := 4294967296) (v1 := V / 4294967296) (v0 := V % 4294967296) (u32 := U) (u1 := x % 4294967296) (by omega) (by omega)
    rw [eV] at hQ2
    have hq2 := (div_loop hV0 hV1 hUV (u1 := x % 4294967296) (by omega) em2 hr2).1
    rw [div_l1 hV0 hV1 sy hUV sl hx1 k _ _ em2 hr2 hQ2 (Nat.lt_of_lt_of_le (Nat.lt_of_le_of_lt hq2 (by omega)) (Nat.le_add_right _ _)), Option.bind_some]
    obtain ⟨Q0, hQ0⟩ : ∃ Q, Q = (U * 4294967296 + x % 4294967296) / V := ⟨_, rfl⟩
    obtain ⟨R, hR⟩ : ∃ R, R = (U * 4294967296 + x % 4294967296) % V := ⟨_, rfl⟩
    have d2 : U * 4294967296 + x % 4294967296 = Q0 * V + R := by rw [hQ0, hR, Nat.mul_comm _ V]; exact (Nat.div_add_mod _ _).symm
    have hRV : R < V := by rw [hR]; exact Nat.mod_lt _ (by omega)
    rw [← hQ0, an32 hx1, mulN' Q0 V, u64sub d2 (by omega), sh3]
    refine ⟨_, congrArg some (Prod.ext rfl ?_)⟩
    show ((R / 8 : Nat) : Int) = _
    congr 1
    have e8 : (hi * 18446744073709551616 + lo) * 8 = (Q1 * 4294967296 + Q0) * V + R := by
      have f1 : (Q1 * 4294967296 + Q0) * V = Q1 * V * 4294967296 + Q0 * V := by rw [Nat.add_mul, Nat.mul_right_comm]
      rw [f1]
      exact div_fin hu hx d1 d2
    have m8 : (hi * 18446744073709551616 + lo) * 8 % (y * 8) = R := by
      rw [e8, hV, Nat.add_comm, Nat.add_mul_mod_self_right, Nat.mod_eq_of_lt (by omega)]
    rw [Nat.mul_mod_mul_right] at m8
    omega
end Gp
set_option linter.unusedVariables false
set_option linter.unusedSimpArgs false
namespace Gp
open Gw Gq
def okM (m : Nat) : Prop := 1152921504606846976 ≤ m ∧ m < 2305843009213693952
theorem prod_l0 {m : Nat} (hm : okM m) (l : List Int) (hl : ∀ x ∈ l, -1000000 ≤ x ∧ x ≤ 1000000) (hlen : l.length ≤ 1000) : ∀ (d i k : Nat) (s : Int) (o : Nat) (P : Int), i + d = l.length → d + 4294967300 < k → (s = 1 ∨ s = -1) → o < m → (m : Int) ∣ P - s * o →
    ∃ s' o', weight_product.l0 k s (o : Int) i m l = some (s', ((o' : Nat) : Int)) ∧ (s' = 1 ∨ s' = -1) ∧ o' < m ∧ (m : Int) ∣ (l.drop i).foldl (· * ·) P - s' * o'
  | 0, i, k, s, o, P, e, hk, hs, ho, hd => by
    obtain ⟨k, rfl⟩ : ∃ m, k = m + 1 := ⟨k - 1, by omega⟩
    refine ⟨s, o, by rw [weight_product.l0, if_neg (by simp; omega)], hs, ho, ?_⟩
    rw [List.drop_of_length_le (by omega)]; exact hd
  | d + 1, i, k, s, o, P, e, hk, hs, ho, hd => by
    obtain ⟨k, rfl⟩ : ∃ m, k = m + 1 := ⟨k - 1, by omega⟩
    have hlt : i < l.length := by omega
    have hwx : w64 ((i : Int) + 1) = ((i + 1 : Nat) : Int) := by rw [w64_id (by omega) (by omega)]; rfl
    obtain ⟨m1, m2⟩ := hm
    obtain ⟨b0, b1⟩ := hl l[i] (List.getElem_mem hlt)
    obtain ⟨y, hy⟩ : ∃ y : Nat, maxI l[i] (w64 (0 - l[i])) = y ∧ y ≤ 1000000 ∧ (l[i] = y ∨ l[i] = -(y : Int)) ∧ (l[i] < 0 → l[i] = -(y : Int)) ∧ (¬ l[i] < 0 → l[i] = y) := by
      rw [w64_id (by omega) (by omega)]
      refine ⟨(maxI l[i] (0 - l[i])).toNat, ?_⟩
      unfold maxI
      split <;> omega
    obtain ⟨y1, y2, -, y3, y4⟩ := hy
    have ey : Int.tmod (Go.IntKind.wrap .u64 (y : Int)) (m : Int) = (y : Int) := by
      rw [u64w (by omega)]
      show ((y % m : Nat) : Int) = _
      rw [Nat.mod_eq_of_lt (by omega)]
    have hoy : o * y < m * 1000001 := Nat.mul_lt_mul_of_lt_of_le ho (by omega) (by omega)
    have hhi : o * y / 18446744073709551616 < m := by omega
    have eh : Int.tmod ((o * y / 18446744073709551616 : Nat) : Int) (m : Int) = ((o * y / 18446744073709551616 : Nat) : Int) := by
      show ((o * y / 18446744073709551616 % m : Nat) : Int) = _
      rw [Nat.mod_eq_of_lt hhi]
    obtain ⟨q, hq⟩ := div64_eq (hi := o * y / 18446744073709551616) (lo := o * y % 18446744073709551616) m1 m2 hhi (by omega) (k := k) (by omega)
    have en : o * y / 18446744073709551616 * 18446744073709551616 + o * y % 18446744073709551616 = o * y := by rw [Nat.mul_comm]; exact Nat.div_add_mod _ _
    rw [en] at hq
    have step : ∀ s2 : Int, (s2 = 1 ∨ s2 = -1) → s2 * (y : Int) = s * l[i] → ∃ s' o', weight_product.l0 k s2 ((o * y % m : Nat) : Int) ((i + 1 : Nat) : Int) m l = some (s', ((o' : Nat) : Int)) ∧ (s' = 1 ∨ s' = -1) ∧ o' < m ∧ (m : Int) ∣ (l.drop i).foldl (· * ·) P - s' * o' := fun s2 h2 h3 => by
      have hd2 : (m : Int) ∣ P * l[i] - s2 * ((o * y % m : Nat) : Int) := by
        obtain ⟨c, hc⟩ := hd
        have h4 := Nat.div_add_mod (o * y) m
        have h5 : ((o * y % m : Nat) : Int) = (o : Int) * (y : Int) - (m : Int) * ((o * y / m : Nat) : Int) := by
          have := congrArg (fun n : Nat => (n : Int)) h4
          simp only [Int.natCast_add, Int.natCast_mul] at this
          omega
        refine ⟨c * l[i] + s2 * ((o * y / m : Nat) : Int), ?_⟩
        have h6 : P = s * (o : Int) + (m : Int) * c := by omega
        rw [h5, h6]
        generalize ((o * y / m : Nat) : Int) = z at *
        generalize (y : Int) = yy at *
        generalize l[i] = li at *
        generalize (o : Int) = oo at *
        generalize (m : Int) = mm at *
        grind
      obtain ⟨s', o', e1, e2, e3, e4⟩ := prod_l0 ⟨m1, m2⟩ l hl hlen d (i + 1) k s2 (o * y % m) (P * l[i]) (by omega) (by omega) h2 (Nat.mod_lt _ (by omega)) hd2
      exact ⟨s', o', e1, e2, e3, by rw [List.drop_eq_getElem_cons hlt]; exact e4⟩
    rw [weight_product.l0, if_pos (by simpa using hlt), if_pos (by omega), if_pos (by omega), rdD_get hlt, y1, ey, hwx]
    by_cases hneg : l[i] < 0
    · have y3 := y3 hneg
      rw [if_pos (decide_eq_true hneg), Option.bind_some, mul64_eq (by omega) (by omega), Option.bind_some]
      simp only
      rw [eh, hq, Option.bind_some]
      rcases hs with rfl | rfl
      · exact step (-1) (.inr rfl) (by rw [y3]; omega)
      · exact step 1 (.inl rfl) (by rw [y3]; omega)
    · have y4 := y4 hneg
      rw [if_neg (by rw [decide_eq_true_eq]; exact hneg), Option.bind_some, mul64_eq (by omega) (by omega), Option.bind_some]
      simp only
      rw [eh, hq, Option.bind_some]
      exact step s hs (by rw [y4])
theorem prod_eq {m : Nat} (hm : okM m) (l : List Int) (hl : ∀ x ∈ l, -1000000 ≤ x ∧ x ≤ 1000000) (hlen : l.length ≤ 1000) {s : Int} (hs : s = 1 ∨ s = -1) {k : Nat} (hk : 4294970000 < k) : ∃ r : Nat, weight_product k m s l = some (r : Int) ∧ r < m ∧ (m : Int) ∣ l.foldl (· * ·) s - r := by
  obtain ⟨m1, m2⟩ := hm
  obtain ⟨s', o', e1, e2, e3, e4⟩ := prod_l0 ⟨m1, m2⟩ l hl hlen l.length 0 k s 1 s (by omega) (by omega) hs (by omega) (by rw [show s - s * ((1 : Nat) : Int) = 0 by omega]; exact Int.dvd_zero _)
  have e1 : weight_product.l0 k s 1 0 m l = some (s', ((o' : Nat) : Int)) := e1
  rw [List.drop_zero] at e4
  unfold weight_product
  rw [e1, Option.bind_some]
  simp only
  rcases e2 with rfl | rfl
  · exact ⟨o', by rw [if_neg (by simp)]; rfl, e3, by rwa [Int.one_mul] at e4⟩
  · by_cases h0 : o' = 0
    · subst h0
      exact ⟨0, by rw [if_neg (by simp)]; rfl, by omega, by simpa using e4⟩
    · refine ⟨m - o', ?_, by omega, ?_⟩
      · rw [if_pos (by simp; omega), show (m : Int) - (o' : Int) = ((m - o' : Nat) : Int) by omega, u64w (by omega)]; rfl
      · obtain ⟨c, hc⟩ := e4
        refine ⟨c - 1, ?_⟩
        rw [Int.mul_sub, ← hc]
        omega
end Gp
set_option linter.unusedVariables false
set_option linter.unusedSimpArgs false
namespace Gp
open Gw Gq
def okF (f : Frac) : Prop := (-1000000 ≤ f.Num ∧ f.Num ≤ 1000000) ∧ 1 ≤ f.Den ∧ f.Den ≤ 1000000
def balD (f s w n e : Frac) : Int := f.Num * s.Num * w.Den * n.Den * e.Den + w.Num * f.Den * s.Den * n.Den * e.Den - n.Num * f.Den * s.Den * w.Den * e.Den - e.Num * f.Den * s.Den * w.Den * n.Den
theorem bal_sum {m : Nat} (hm : okM m) {a b : Nat} (ha : a < m) (hb : b < m) : Int.tmod (Go.IntKind.wrap .u64 ((a : Int) + (b : Int))) (m : Int) = (((a + b) % m : Nat) : Int) := by
  obtain ⟨m1, m2⟩ := hm
  rw [addN', u64w (by omega)]; rfl
theorem bal_l1 {m : Nat} (hm : okM m) {x : Int} (hx : getI [2305843009213693951, 2305843009213693921, 2305843009213693907] x = (m : Int)) {a b c d : Nat} (ha : a < m) (hb : b < m) (hc : c < m) (hd : d < m) (k : Nat) :
    weight_balanced.l1 (k + 5) 0 0 x a b c d = some (((((((0 + a) % m + b) % m + c) % m + d) % m : Nat)) : Int) := by
  have hm0 : (m : Int) ≠ 0 := by have := hm.1; omega
  have lt : ∀ z : Nat, z % m < m := fun z => Nat.mod_lt _ (by have := hm.1; omega)
  have w1 : w64 ((0 : Int) + 1) = 1 := by decide
  have w2 : w64 ((1 : Int) + 1) = 2 := by decide
  have w3 : w64 ((2 : Int) + 1) = 3 := by decide
  have w4 : w64 ((3 : Int) + 1) = 4 := by decide
  have s1 : Int.tmod (Go.IntKind.wrap .u64 (0 + (a : Int))) (m : Int) = (((0 + a) % m : Nat) : Int) := bal_sum hm (a := 0) (by have := hm.1; omega) ha
  have len : ([(a : Int), b, c, d].length : Int) = 4 := rfl
  rw [weight_balanced.l1, len, if_pos (by decide), if_pos (by decide), hx, if_pos hm0, w1, show rdD [(a : Int), b, c, d] 0 0 = (a : Int) by rfl, s1]
  rw [weight_balanced.l1, len, if_pos (by decide), if_pos (by decide), hx, if_pos hm0, w2, show rdD [(a : Int), b, c, d] 1 0 = (b : Int) by rfl, bal_sum hm (lt _) hb]
  rw [weight_balanced.l1, len, if_pos (by decide), if_pos (by decide), hx, if_pos hm0, w3, show rdD [(a : Int), b, c, d] 2 0 = (c : Int) by rfl, bal_sum hm (lt _) hc]
  rw [weight_balanced.l1, len, if_pos (by decide), if_pos (by decide), hx, if_pos hm0, w4, show rdD [(a : Int), b, c, d] 3 0 = (d : Int) by rfl, bal_sum hm (lt _) hd]
  rw [weight_balanced.l1, len, if_neg (by decide)]
theorem mem5 {a b c d e : Int} (h : (-1000000 ≤ a ∧ a ≤ 1000000) ∧ (-1000000 ≤ b ∧ b ≤ 1000000) ∧ (-1000000 ≤ c ∧ c ≤ 1000000) ∧ (-1000000 ≤ d ∧ d ≤ 1000000) ∧ (-1000000 ≤ e ∧ e ≤ 1000000)) : ∀ x ∈ [a, b, c, d, e], -1000000 ≤ x ∧ x ≤ 1000000 := by
  intro x hx
  simp only [List.mem_cons, List.not_mem_nil, or_false] at hx
  rcases hx with rfl | rfl | rfl | rfl | rfl <;> omega
theorem mod_dvd {m : Nat} (x : Nat) : (m : Int) ∣ (x : Int) - ((x % m : Nat) : Int) := ⟨((x / m : Nat) : Int), by
  have := congrArg (fun n : Nat => (n : Int)) (Nat.div_add_mod x m)
  simp only [Int.natCast_add, Int.natCast_mul] at this
  omega⟩
end Gp
set_option linter.unusedVariables false
set_option linter.unusedSimpArgs false
namespace Gp
open Gw Gq
theorem bal_round {f s w n e : Frac} (hf : okF f) (hs : okF s) (hw : okF w) (hn : okF n) (he : okF e) {m : Nat} (hm : okM m) {x : Int} (h0 : 0 ≤ x ∧ x < 3) (hx : getI [2305843009213693951, 2305843009213693921, 2305843009213693907] x = (m : Int)) {k : Nat} (hk : 4294970010 < k) :
    ((m : Int) ∣ balD f s w n e → weight_balanced.l0 (k + 1) x f s w n e = weight_balanced.l0 k (w64 (x + 1)) f s w n e) ∧ (¬ (m : Int) ∣ balD f s w n e → weight_balanced.l0 (k + 1) x f s w n e = some (.inl false)) := by
  obtain ⟨⟨f1, f2⟩, f3, f4⟩ := hf
  obtain ⟨⟨s1, s2⟩, s3, s4⟩ := hs
  obtain ⟨⟨w1, w2⟩, w3, w4⟩ := hw
  obtain ⟨⟨n1, n2⟩, n3, n4⟩ := hn
  obtain ⟨⟨e1, e2⟩, e3, e4⟩ := he
  obtain ⟨a, p1, p2, p3⟩ := prod_eq hm [f.Num, s.Num, w.Den, n.Den, e.Den] (mem5 (by omega)) (by simp) (.inl rfl) (k := k) (by omega)
  obtain ⟨b, q1, q2, q3⟩ := prod_eq hm [w.Num, f.Den, s.Den, n.Den, e.Den] (mem5 (by omega)) (by simp) (.inl rfl) (k := k) (by omega)
  obtain ⟨c, r1, r2, r3⟩ := prod_eq hm [n.Num, f.Den, s.Den, w.Den, e.Den] (mem5 (by omega)) (by simp) (.inr rfl) (k := k) (by omega)
  obtain ⟨d, t1, t2, t3⟩ := prod_eq hm [e.Num, f.Den, s.Den, w.Den, n.Den] (mem5 (by omega)) (by simp) (.inr rfl) (k := k) (by omega)
  obtain ⟨k', rfl⟩ : ∃ k', k = k' + 5 := ⟨k - 5, by omega⟩
  have l1 := bal_l1 hm hx p2 q2 r2 t2 k'
  have hlt : ((((0 + a) % m + b) % m + c) % m + d) % m < m := Nat.mod_lt _ (by have := hm.1; omega)
  obtain ⟨z, hz⟩ : ∃ z, z = ((((0 + a) % m + b) % m + c) % m + d) % m := ⟨_, rfl⟩
  have hdv : (m : Int) ∣ balD f s w n e - (z : Int) := by
    have g1 := mod_dvd (m := m) (0 + a)
    have g2 := mod_dvd (m := m) ((0 + a) % m + b)
    have g3 := mod_dvd (m := m) (((0 + a) % m + b) % m + c)
    have g4 := mod_dvd (m := m) ((((0 + a) % m + b) % m + c) % m + d)
    rw [← hz] at g4
    have g := Int.dvd_add (Int.dvd_add (Int.dvd_add (Int.dvd_add p3 q3) (Int.dvd_add r3 t3)) (Int.dvd_add g1 g2)) (Int.dvd_add g3 g4)
    refine (Int.dvd_iff_dvd_of_dvd_sub ?_).1 g
    have f1' : [f.Num, s.Num, w.Den, n.Den, e.Den].foldl (· * ·) 1 = f.Num * s.Num * w.Den * n.Den * e.Den := by simp only [List.foldl, Int.one_mul]
    have f2' : [w.Num, f.Den, s.Den, n.Den, e.Den].foldl (· * ·) 1 = w.Num * f.Den * s.Den * n.Den * e.Den := by simp only [List.foldl, Int.one_mul]
    have f3' : [n.Num, f.Den, s.Den, w.Den, e.Den].foldl (· * ·) (-1) = -(n.Num * f.Den * s.Den * w.Den * e.Den) := by simp only [List.foldl, Int.neg_mul, Int.one_mul]
    have f4' : [e.Num, f.Den, s.Den, w.Den, n.Den].foldl (· * ·) (-1) = -(e.Num * f.Den * s.Den * w.Den * n.Den) := by simp only [List.foldl, Int.neg_mul, Int.one_mul]
    rw [f1', f2', f3', f4']
    refine ⟨0, ?_⟩
    unfold balD
    simp only [Int.natCast_add]
    generalize f.Num * s.Num * w.Den * n.Den * e.Den = A1
    generalize w.Num * f.Den * s.Den * n.Den * e.Den = A2
    generalize n.Num * f.Den * s.Den * w.Den * e.Den = A3
    generalize e.Num * f.Den * s.Den * w.Den * n.Den = A4
    generalize (((0 + a) % m : Nat) : Int) = x1
    generalize ((((0 + a) % m + b) % m : Nat) : Int) = x2
    generalize (((((0 + a) % m + b) % m + c) % m : Nat) : Int) = x3
    clear p1 q1 r1 t1 l1 hlt g g1 g2 g3 g4 p3 q3 r3 t3
    omega
  have hiff : (m : Int) ∣ balD f s w n e ↔ z = 0 := by
    constructor
    · intro h
      have h2 : (m : Int) ∣ (z : Int) := by have := Int.dvd_sub h hdv; rwa [show balD f s w n e - (balD f s w n e - (z : Int)) = (z : Int) by omega] at this
      have h3 : m ∣ z := Int.natCast_dvd_natCast.1 h2
      exact Nat.eq_zero_of_dvd_of_lt h3 (by omega)
    · intro h
      subst h
      simpa using hdv
  have hstep : weight_balanced.l0 (k' + 5 + 1) x f s w n e = if ((z : Int) != 0) = true then some (.inl false) else weight_balanced.l0 (k' + 5) (w64 (x + 1)) f s w n e := by
    rw [weight_balanced.l0, if_pos (by simp; omega), if_pos h0, hx, p1, Option.bind_some, q1, Option.bind_some, r1, Option.bind_some, t1, Option.bind_some, l1, Option.bind_some, hz]
  rw [hstep, hiff]
  refine ⟨fun h => by rw [if_neg (by rw [h]; decide)], fun h => by rw [if_pos (by simpa using h)]⟩
end Gp
set_option linter.unusedVariables false
set_option linter.unusedSimpArgs false
namespace Gp
open Gw Gq
theorem abs5 {a b c d e : Int} (h : (-1000000 ≤ a ∧ a ≤ 1000000) ∧ (-1000000 ≤ b ∧ b ≤ 1000000) ∧ (-1000000 ≤ c ∧ c ≤ 1000000) ∧ (-1000000 ≤ d ∧ d ≤ 1000000) ∧ (-1000000 ≤ e ∧ e ≤ 1000000)) : (a * b * c * d * e).natAbs ≤ 1000000000000000000000000000000 := by
  rw [Int.natAbs_mul, Int.natAbs_mul, Int.natAbs_mul, Int.natAbs_mul]
  have h1 : a.natAbs * b.natAbs ≤ 1000000 * 1000000 := Nat.mul_le_mul (by omega) (by omega)
  have h2 := Nat.mul_le_mul h1 (show c.natAbs ≤ 1000000 by omega)
  have h3 := Nat.mul_le_mul h2 (show d.natAbs ≤ 1000000 by omega)
  exact Nat.mul_le_mul h3 (show e.natAbs ≤ 1000000 by omega)
theorem balD_abs {f s w n e : Frac} (hf : okF f) (hs : okF s) (hw : okF w) (hn : okF n) (he : okF e) : (balD f s w n e).natAbs ≤ 4000000000000000000000000000000 := by
  obtain ⟨⟨f1, f2⟩, f3, f4⟩ := hf
  obtain ⟨⟨s1, s2⟩, s3, s4⟩ := hs
  obtain ⟨⟨w1, w2⟩, w3, w4⟩ := hw
  obtain ⟨⟨n1, n2⟩, n3, n4⟩ := hn
  obtain ⟨⟨e1, e2⟩, e3, e4⟩ := he
  have g1 := abs5 (a := f.Num) (b := s.Num) (c := w.Den) (d := n.Den) (e := e.Den) (by omega)
  have g2 := abs5 (a := w.Num) (b := f.Den) (c := s.Den) (d := n.Den) (e := e.Den) (by omega)
  have g3 := abs5 (a := n.Num) (b := f.Den) (c := s.Den) (d := w.Den) (e := e.Den) (by omega)
  have g4 := abs5 (a := e.Num) (b := f.Den) (c := s.Den) (d := w.Den) (e := n.Den) (by omega)
  unfold balD
  generalize f.Num * s.Num * w.Den * n.Den * e.Den = A1 at g1 ⊢
  generalize w.Num * f.Den * s.Den * n.Den * e.Den = A2 at g2 ⊢
  generalize n.Num * f.Den * s.Den * w.Den * e.Den = A3 at g3 ⊢
  generalize e.Num * f.Den * s.Den * w.Den * n.Den = A4 at g4 ⊢
  have hb4 : (A1 + A2 - A3 - A4).natAbs ≤ 4000000000000000000000000000000 := by
    omega
  exact hb4
theorem balanced_eq {f s w n e : Frac} (hf : okF f) (hs : okF s) (hw : okF w) (hn : okF n) (he : okF e) {k : Nat} (hk : 4294970020 < k) : weight_balanced k f s w n e = some (decide (balD f s w n e = 0)) := by
  obtain ⟨k, rfl⟩ : ∃ k', k = k' + 4 := ⟨k - 4, by omega⟩
  obtain ⟨a1, a2⟩ := bal_round hf hs hw hn he (m := 2305843009213693951) ⟨by omega, by omega⟩ (x := 0) (by omega) rfl (k := k + 3) (by omega)
  obtain ⟨b1, b2⟩ := bal_round hf hs hw hn he (m := 2305843009213693921) ⟨by omega, by omega⟩ (x := 1) (by omega) rfl (k := k + 2) (by omega)
  obtain ⟨c1, c2⟩ := bal_round hf hs hw hn he (m := 2305843009213693907) ⟨by omega, by omega⟩ (x := 2) (by omega) rfl (k := k + 1) (by omega)
  have w1 : w64 ((0 : Int) + 1) = 1 := by decide
  have w2 : w64 ((1 : Int) + 1) = 2 := by decide
  have w3 : w64 ((2 : Int) + 1) = 3 := by decide
  rw [w1] at a1
  rw [w2] at b1
  rw [w3] at c1
  have fin : weight_balanced.l0 (k + 1) 3 f s w n e = some (.inr ()) := by rw [weight_balanced.l0, if_neg (by decide)]
  have no : ∀ m : Nat, ¬ (m : Int) ∣ balD f s w n e → decide (balD f s w n e = 0) = false := fun m h => decide_eq_false fun h0 => h (by rw [h0]; exact Int.dvd_zero _)
  unfold weight_balanced
  by_cases ha : ((2305843009213693951 : Nat) : Int) ∣ balD f s w n e
  rotate_left
  · rw [a2 ha, no _ ha]; rfl
  rw [a1 ha]
  by_cases hb : ((2305843009213693921 : Nat) : Int) ∣ balD f s w n e
  rotate_left
  · rw [b2 hb, no _ hb]; rfl
  rw [b1 hb]
  by_cases hc : ((2305843009213693907 : Nat) : Int) ∣ balD f s w n e
  rotate_left
  · rw [c2 hc, no _ hc]; rfl
  rw [c1 hc, fin]
  obtain ⟨m1, m2, m3⟩ := CR.moduli_coprime
  have hz : balD f s w n e = 0 := by
    refine CR.crt m1 m2 m3 (Int.emod_eq_zero_of_dvd ha) (Int.emod_eq_zero_of_dvd hb) (Int.emod_eq_zero_of_dvd hc) ?_
    exact Nat.lt_of_le_of_lt (balD_abs hf hs hw hn he) (by decide +kernel)
  rw [decide_eq_true hz]; rfl
end Gp
set_option linter.unusedVariables false
set_option linter.unusedSimpArgs false
namespace Gp
open Gw Gq
abbrev fr (l : List Frac) (i : Int) : Frac := rdD l i z_Frac
abbrev tw (s : List Tile) (i : Nat) : Tile := rdD s (i : Int) z_Tile
theorem tw_get {s : List Tile} {i : Nat} (h : i < s.length) : tw s i = s[i] := rdD_get h _
theorem fr_mem {l : List Frac} {i : Int} (h : 0 ≤ i ∧ i < (l.length : Int)) : fr l i ∈ l := by
  obtain ⟨n, rfl⟩ : ∃ n : Nat, i = n := ⟨i.toNat, by omega⟩
  have hn : n < l.length := by omega
  show rdD l (n : Int) z_Frac ∈ l
  rw [rdD_get hn]; exact List.getElem_mem hn
structure OKW (s : List Tile) (w : Weights) : Prop where
  len : s.length ≤ 1000
  N : ∀ i, i < s.length → 0 ≤ (tw s i).N ∧ (tw s i).N < (w.Values.length : Int)
  S : ∀ i, i < s.length → 0 ≤ (tw s i).S ∧ (tw s i).S < (w.Values.length : Int)
  E : ∀ i, i < s.length → 0 ≤ (tw s i).E ∧ (tw s i).E < (w.Carries.length : Int)
  W : ∀ i, i < s.length → 0 ≤ (tw s i).W ∧ (tw s i).W < (w.Carries.length : Int)
  fl : w.Factors.length = s.length
  okv : ∀ f ∈ w.Values, okF f ∧ 0 ≤ f.Num
  okc : ∀ f ∈ w.Carries, okF f
  okf : ∀ f ∈ w.Factors, okF f ∧ 0 < f.Num
def balT (s : List Tile) (w : Weights) (i : Nat) : Bool := decide (balD (fr w.Factors i) (fr w.Values (tw s i).S) (fr w.Carries (tw s i).W) (fr w.Values (tw s i).N) (fr w.Carries (tw s i).E) = 0)
theorem OKW.f {s : List Tile} {w : Weights} (h : OKW s w) {i : Nat} (hi : i < s.length) : okF (fr w.Factors i) ∧ 0 < (fr w.Factors i).Num := h.okf _ (fr_mem (by rw [h.fl]; omega))
theorem ck1_l0 {s : List Tile} {w : Weights} (h : OKW s w) : ∀ (d x k : Nat), x + d = s.length → d + 4294970020 < k → weight_Check_1.l0 k x s w = some (if (List.range' x d).all (balT s w) = true then .inr () else .inl false)
  | 0, x, k, e, hk => by
    obtain ⟨k, rfl⟩ : ∃ m, k = m + 1 := ⟨k - 1, by omega⟩
    rw [weight_Check_1.l0, if_neg (by simp; omega)]; rfl
  | d + 1, x, k, e, hk => by
    obtain ⟨k, rfl⟩ : ∃ m, k = m + 1 := ⟨k - 1, by omega⟩
    have hl := h.len
    have hx : x < s.length := by omega
    have hwx : w64 ((x : Int) + 1) = ((x + 1 : Nat) : Int) := by rw [w64_id (by omega) (by omega)]; rfl
    have hF : 0 ≤ (x : Int) ∧ (x : Int) < (w.Factors.length : Int) := by rw [h.fl]; omega
    have hb := balanced_eq (h.f hx).1 (h.okv _ (fr_mem (h.S x hx))).1 (h.okc _ (fr_mem (h.W x hx))) (h.okv _ (fr_mem (h.N x hx))).1 (h.okc _ (fr_mem (h.E x hx))) (k := k) (by omega)
    have hb : weight_balanced k (rdD w.Factors x z_Frac) (rdD w.Values (rdD s (x : Int) z_Tile).S z_Frac) (rdD w.Carries (rdD s (x : Int) z_Tile).W z_Frac) (rdD w.Values (rdD s (x : Int) z_Tile).N z_Frac) (rdD w.Carries (rdD s (x : Int) z_Tile).E z_Frac) = some (balT s w x) := hb
    rw [weight_Check_1.l0, if_pos (by simpa using hx), if_pos (by omega), if_pos hF, if_pos (h.S x hx), if_pos (h.W x hx), if_pos (h.N x hx), if_pos (h.E x hx), hb, Option.bind_some, hwx, List.range'_succ, List.all_cons]
    cases hbt : balT s w x
    · rfl
    · rw [if_neg (by decide), Bool.true_and]
      exact ck1_l0 h d (x + 1) k (by omega) (by omega)
theorem ck1_eq {s : List Tile} {w : Weights} (h : OKW s w) {k : Nat} (hk : 4294980000 < k) : weight_Check_1 k s w = some ((List.range s.length).all (balT s w)) := by
  have hl := h.len
  have l0 := ck1_l0 h s.length 0 k (by omega) (by omega)
  have l0 : weight_Check_1.l0 k 0 s w = _ := l0
  unfold weight_Check_1
  rw [l0, Option.bind_some, ← List.range_eq_range']
  cases (List.range s.length).all (balT s w) <;> rfl
/-! factors that are equal -/
def eqF (a b : Frac) : Bool := decide (a.Num * b.Den = b.Num * a.Den)
theorem mul_bd {a b : Int} (ha : -1000000 ≤ a ∧ a ≤ 1000000) (hb : 1 ≤ b ∧ b ≤ 1000000) : -1000000000000 ≤ a * b ∧ a * b ≤ 1000000000000 := by
  have h : (a * b).natAbs ≤ 1000000 * 1000000 := by rw [Int.natAbs_mul]; exact Nat.mul_le_mul (by omega) (by omega)
  omega
theorem equal_eq {a b : Frac} (ha : okF a) (hb : okF b) : weight_equal a b = some (eqF a b) := by
  have h1 := mul_bd ha.1 hb.2
  have h2 := mul_bd hb.1 ha.2
  unfold weight_equal eqF
  rw [w64_id (by omega) (by omega), w64_id (by omega) (by omega)]
  rfl
theorem eqF_refl (a : Frac) : eqF a a = true := decide_eq_true rfl
theorem eqF_trans {a b c : Frac} (hb : okF b) (h1 : eqF a b = true) (h2 : eqF b c = true) : eqF a c = true := by
  unfold eqF at *
  rw [decide_eq_true_eq] at *
  have hb0 : b.Den ≠ 0 := by have := hb.2.1; omega
  have : b.Den * (a.Num * c.Den) = b.Den * (c.Num * a.Den) := by
    have e1 : b.Den * (a.Num * c.Den) = a.Num * b.Den * c.Den := by rw [Int.mul_left_comm, Int.mul_assoc]
    have e2 : b.Den * (c.Num * a.Den) = c.Num * b.Den * a.Den := by rw [Int.mul_left_comm, Int.mul_assoc]
    rw [e1, e2, h1, ← h2, Int.mul_right_comm]
  exact Int.eq_of_mul_eq_mul_left hb0 this
theorem eqF_symm {a b : Frac} (h : eqF a b = true) : eqF b a = true := by
  unfold eqF at *
  rw [decide_eq_true_eq] at *
  exact h.symm
end Gp
set_option linter.unusedVariables false
set_option linter.unusedSimpArgs false
namespace Gp
open Gw Gq
theorem mgetW {κ ν : Type} [DecidableEq κ] (x y : κ) (z v : ν) : ∀ l : List (κ × ν), mget x z (mput y v l) = if x = y then v else mget x z l
  | [] => by simp [mput, mget]
  | p :: r => by
    simp only [mput]
    by_cases h : y = p.1
    · rw [if_pos h]
      simp only [mget]
      by_cases hx : x = y
      · rw [if_pos hx, if_pos hx]
      · rw [if_neg hx, if_neg hx, if_neg (fun e => hx (e.trans h.symm))]
    · rw [if_neg h]
      simp only [mget]
      by_cases hx : x = p.1
      · rw [if_pos hx, if_pos hx, if_neg (fun e => h (e.symm.trans hx))]
      · rw [if_neg hx, if_neg hx]; exact mgetW x y z v r
theorem mhasW {κ ν : Type} [DecidableEq κ] (x y : κ) (v : ν) : ∀ l : List (κ × ν), mhas x (mput y v l) = (decide (x = y) || mhas x l)
  | [] => by simp [mput, mhas]
  | p :: r => by
    simp only [mput]
    by_cases h : y = p.1
    · rw [if_pos h]
      simp only [mhas]
      by_cases hx : x = y
      · simp [hx]
      · have : ¬ x = p.1 := fun e => hx (e.trans h.symm)
        simp [hx, this]
    · rw [if_neg h]
      simp only [mhas, mhasW x y v r]
      by_cases hx : x = y
      · have : ¬ x = p.1 := fun e => h (hx.symm.trans e)
        simp [hx]
      · simp [hx]
structure BI (s : List Tile) (w : Weights) (x : Nat) (m : List (Int × Frac)) : Prop where
  has : ∀ c, mhas c m = true ↔ ∃ j, j < x ∧ (tw s j).W = c
  get : ∀ c, mhas c m = true → ∃ j, j < x ∧ (tw s j).W = c ∧ mget c z_Frac m = fr w.Factors j
def inE (s : List Tile) (c : Int) : Prop := ∃ u, u < s.length ∧ (tw s u).E = c
def sameW (s : List Tile) (w : Weights) (x : Nat) : Prop := ∀ j j', j < x → j' < x → (tw s j).W = (tw s j').W → inE s (tw s j).W → eqF (fr w.Factors j) (fr w.Factors j') = true
theorem ck2_l1 {s : List Tile} (hl : s.length ≤ 1000) {i : Nat} (hi : i < s.length) : ∀ (d x k : Nat), x + d = s.length → d < k → (weight_Check_2.l1 k x s i = some (.inl false) ∧ ∃ u, x ≤ u ∧ u < s.length ∧ (tw s u).E = (tw s i).W) ∨ (weight_Check_2.l1 k x s i = some (.inr ()) ∧ ∀ u, x ≤ u → u < s.length → ¬ (tw s u).E = (tw s i).W)
  | 0, x, k, e, hk => by
    obtain ⟨k, rfl⟩ : ∃ m, k = m + 1 := ⟨k - 1, by omega⟩
    exact .inr ⟨by rw [weight_Check_2.l1, if_neg (by simp; omega)], fun u h1 h2 => by omega⟩
  | d + 1, x, k, e, hk => by
    obtain ⟨k, rfl⟩ : ∃ m, k = m + 1 := ⟨k - 1, by omega⟩
    have hx : x < s.length := by omega
    have hwx : w64 ((x : Int) + 1) = ((x + 1 : Nat) : Int) := by rw [w64_id (by omega) (by omega)]; rfl
    rw [weight_Check_2.l1, if_pos (by simpa using hx), if_pos (by omega), hwx]
    by_cases he : (tw s x).E = (tw s i).W
    · exact .inl ⟨by rw [if_pos (by simpa using he)], x, by omega, hx, he⟩
    · rw [if_neg (by simpa using he)]
      rcases ck2_l1 hl hi d (x + 1) k (by omega) (by omega) with ⟨h1, u, h2, h3, h4⟩ | ⟨h1, h2⟩
      · exact .inl ⟨h1, u, by omega, h3, h4⟩
      · refine .inr ⟨h1, fun u h3 h4 => ?_⟩
        by_cases e2 : u = x
        · rw [e2]; exact he
        · exact h2 u (by omega) h4
theorem BI.put {s : List Tile} {w : Weights} {x : Nat} {m : List (Int × Frac)} (h : BI s w x m) : BI s w (x + 1) (mput (tw s x).W (fr w.Factors x) m) := by
  refine ⟨fun c => ?_, fun c hc => ?_⟩
  · rw [mhasW, Bool.or_eq_true, decide_eq_true_eq, h.has]
    constructor
    · rintro (rfl | ⟨j, h1, h2⟩)
      · exact ⟨x, by omega, rfl⟩
      · exact ⟨j, by omega, h2⟩
    · rintro ⟨j, h1, h2⟩
      by_cases e : j = x
      · exact .inl (by rw [← h2, e])
      · exact .inr ⟨j, by omega, h2⟩
  · rw [mgetW]
    by_cases e : c = (tw s x).W
    · rw [if_pos e]; exact ⟨x, by omega, e.symm, rfl⟩
    · rw [if_neg e]
      rw [mhasW, Bool.or_eq_true, decide_eq_true_eq] at hc
      obtain ⟨j, h1, h2, h3⟩ := h.get c (hc.resolve_left e)
      exact ⟨j, by omega, h2, h3⟩
theorem sameW_step {s : List Tile} {w : Weights} (ok : OKW s w) {x : Nat} (hx : x < s.length) (h : sameW s w x) (hs : ∀ j, j < x → (tw s j).W = (tw s x).W → inE s (tw s x).W → eqF (fr w.Factors j) (fr w.Factors x) = true) : sameW s w (x + 1) := fun j j' h1 h2 h3 h4 => by
  by_cases e1 : j = x
  · by_cases e2 : j' = x
    · rw [e1, e2]; exact eqF_refl _
    · rw [e1]
      refine eqF_symm (hs j' (by omega) (by rw [← h3, e1]) (by rw [← e1]; exact h4))
  · by_cases e2 : j' = x
    · rw [e2]
      exact hs j (by omega) (by rw [h3, e2]) (by rw [← e2, ← h3]; exact h4)
    · exact h j j' (by omega) (by omega) h3 h4
theorem ck2_l0 {s : List Tile} {w : Weights} (ok : OKW s w) : ∀ (d x k : Nat) (m : List (Int × Frac)), x + d = s.length → d + 1001 < k → BI s w x m → sameW s w x →
    (weight_Check_2.l0 k m x s w = some (.inl false) ∧ ¬ sameW s w s.length) ∨ (∃ m', weight_Check_2.l0 k m x s w = some (.inr m') ∧ BI s w s.length m' ∧ sameW s w s.length)
  | 0, x, k, m, e, hk, hb, hs => by
    obtain ⟨k, rfl⟩ : ∃ m, k = m + 1 := ⟨k - 1, by omega⟩
    obtain rfl : x = s.length := by omega
    exact .inr ⟨m, by rw [weight_Check_2.l0, if_neg (by simp)], hb, hs⟩
  | d + 1, x, k, m, e, hk, hb, hs => by
    obtain ⟨k, rfl⟩ : ∃ m, k = m + 1 := ⟨k - 1, by omega⟩
    have hl := ok.len
    have hx : x < s.length := by omega
    have hwx : w64 ((x : Int) + 1) = ((x + 1 : Nat) : Int) := by rw [w64_id (by omega) (by omega)]; rfl
    have hF : 0 ≤ (x : Int) ∧ (x : Int) < (w.Factors.length : Int) := by rw [ok.fl]; omega
    rw [weight_Check_2.l0, if_pos (by simpa using hx), if_pos (by omega), hwx]
    simp only [if_pos hF]
    have next := ck2_l0 ok d (x + 1) k _ (by omega) (by omega) hb.put
    by_cases hm : mhas (tw s x).W m = true
    · obtain ⟨j, j1, j2, j3⟩ := hb.get _ hm
      have j3 : mget (rdD s (x : Int) z_Tile).W z_Frac m = fr w.Factors j := j3
      rw [if_pos hm, j3, equal_eq (ok.f (by omega)).1 (ok.f hx).1, Option.bind_some]
      cases heq : eqF (fr w.Factors j) (fr w.Factors x)
      · have l1 := ck2_l1 hl hx s.length 0 k (by omega) (by omega)
        have l1 : (weight_Check_2.l1 k 0 s x = some (.inl false) ∧ _) ∨ (weight_Check_2.l1 k 0 s x = some (.inr ()) ∧ _) := l1
        rcases l1 with ⟨h1, u, h2, h3, h4⟩ | ⟨h1, h2⟩
        · refine .inl ⟨?_, fun hw => ?_⟩
          · show ((if (!false) = true then _ else _ : Option (Sum Bool Unit)).bind _) = _
            rw [if_pos (by decide), h1]; rfl
          · have := hw j x (by omega) hx j2 (by rw [j2]; exact ⟨u, h3, h4⟩)
            rw [heq] at this; cases this
        · have hs2 : sameW s w (x + 1) := sameW_step ok hx hs fun j' h3 h4 h5 => by
            obtain ⟨u, h6, h7⟩ := h5
            exact absurd h7 (h2 u (by omega) h6)
          have := next hs2
          show (((if (!false) = true then _ else _ : Option (Sum Bool Unit)).bind _) = _ ∧ _) ∨ ∃ m', ((if (!false) = true then _ else _ : Option (Sum Bool Unit)).bind _) = _ ∧ _
          rw [if_pos (by decide), h1]
          exact this
      · have hs2 : sameW s w (x + 1) := sameW_step ok hx hs fun j' h3 h4 h5 => eqF_trans (ok.f (by omega)).1 (hs j' j h3 j1 (by rw [h4, j2]) (by rw [h4]; exact h5)) heq
        exact next hs2
    · have hm2 : mhas (tw s x).W m = false := by simpa using hm
      rw [if_neg hm]
      have hs2 : sameW s w (x + 1) := sameW_step ok hx hs fun j' h3 h4 h5 => absurd ((hb.has _).2 ⟨j', h3, h4⟩) hm
      exact next hs2
end Gp
set_option linter.unusedVariables false
set_option linter.unusedSimpArgs false
namespace Gp
open Gw Gq
theorem ck2_l2 {s : List Tile} {w : Weights} (ok : OKW s w) {m : List (Int × Frac)} (hb : BI s w s.length m) : ∀ (d x k : Nat), x + d = s.length → d < k →
    (weight_Check_2.l2 k x s w m = some (.inl false) ∧ ∃ i j, i < s.length ∧ j < s.length ∧ (tw s j).W = (tw s i).E ∧ eqF (fr w.Factors j) (fr w.Factors i) = false) ∨
    (weight_Check_2.l2 k x s w m = some (.inr ()) ∧ ∀ i, x ≤ i → i < s.length → (∃ j, j < s.length ∧ (tw s j).W = (tw s i).E) → ∃ j, j < s.length ∧ (tw s j).W = (tw s i).E ∧ eqF (fr w.Factors j) (fr w.Factors i) = true)
  | 0, x, k, e, hk => by
    obtain ⟨k, rfl⟩ : ∃ m, k = m + 1 := ⟨k - 1, by omega⟩
    exact .inr ⟨by rw [weight_Check_2.l2, if_neg (by simp; omega)], fun i h1 h2 => by omega⟩
  | d + 1, x, k, e, hk => by
    obtain ⟨k, rfl⟩ : ∃ m, k = m + 1 := ⟨k - 1, by omega⟩
    have hl := ok.len
    have hx : x < s.length := by omega
    have hwx : w64 ((x : Int) + 1) = ((x + 1 : Nat) : Int) := by rw [w64_id (by omega) (by omega)]; rfl
    have hF : 0 ≤ (x : Int) ∧ (x : Int) < (w.Factors.length : Int) := by rw [ok.fl]; omega
    rw [weight_Check_2.l2, if_pos (by simpa using hx), if_pos (by omega), hwx]
    simp only [if_pos hF]
    have next := ck2_l2 ok hb d (x + 1) k (by omega) (by omega)
    by_cases hm : mhas (tw s x).E m = true
    · obtain ⟨j, j1, j2, j3⟩ := hb.get _ hm
      have j3 : mget (rdD s (x : Int) z_Tile).E z_Frac m = fr w.Factors j := j3
      rw [if_pos hm, j3, equal_eq (ok.f j1).1 (ok.f hx).1, Option.bind_some]
      cases heq : eqF (fr w.Factors j) (fr w.Factors x)
      · exact .inl ⟨rfl, x, j, hx, j1, j2, heq⟩
      · rcases next with ⟨h1, h2⟩ | ⟨h1, h2⟩
        · exact .inl ⟨h1, h2⟩
        · refine .inr ⟨h1, fun i h3 h4 h5 => ?_⟩
          by_cases e2 : i = x
          · rw [e2]; exact ⟨j, j1, j2, heq⟩
          · exact h2 i (by omega) h4 h5
    · rw [if_neg hm]
      rcases next with ⟨h1, h2⟩ | ⟨h1, h2⟩
      · exact .inl ⟨h1, h2⟩
      · refine .inr ⟨h1, fun i h3 h4 h5 => ?_⟩
        by_cases e2 : i = x
        · obtain ⟨j, j1, j2⟩ := h5
          exact absurd ((hb.has _).2 ⟨j, j1, by rw [j2, e2]⟩) hm
        · exact h2 i (by omega) h4 h5
def pairsF (s : List Tile) (w : Weights) : Prop := ∀ i j, i < s.length → j < s.length → (tw s i).E = (tw s j).W → eqF (fr w.Factors i) (fr w.Factors j) = true
theorem ck2_eq {s : List Tile} {w : Weights} (ok : OKW s w) {k : Nat} (hk : 5000 < k) : ∃ b, weight_Check_2 k s w = some b ∧ (b = true ↔ pairsF s w) := by
  have hl := ok.len
  have l0 := ck2_l0 ok s.length 0 k [] (by omega) (by omega) ⟨fun c => by simp [mhas], fun c hc => by simp [mhas] at hc⟩ (fun j j' h => by omega)
  have l0 : (weight_Check_2.l0 k [] 0 s w = some (.inl false) ∧ _) ∨ (∃ m', weight_Check_2.l0 k [] 0 s w = some (.inr m') ∧ _) := l0
  have fromP : pairsF s w → sameW s w s.length := fun h j j' h1 h2 h3 ⟨u, h4, h5⟩ => eqF_trans (ok.f h4).1 (eqF_symm (h u j h4 h1 h5)) (h u j' h4 h2 (by rw [h5, h3]))
  unfold weight_Check_2
  rcases l0 with ⟨h1, h2⟩ | ⟨m, h1, h2, h3⟩
  · exact ⟨false, by rw [h1]; rfl, ⟨fun h => (by cases h), fun h => absurd (fromP h) h2⟩⟩
  · rw [h1]
    have l2 := ck2_l2 ok h2 s.length 0 k (by omega) (by omega)
    have l2 : (weight_Check_2.l2 k 0 s w m = some (.inl false) ∧ _) ∨ (weight_Check_2.l2 k 0 s w m = some (.inr ()) ∧ _) := l2
    rcases l2 with ⟨g1, i, j, g2, g3, g4, g5⟩ | ⟨g1, g2⟩
    · refine ⟨false, ?_, ⟨fun h => (by cases h), fun h => ?_⟩⟩
      · show (weight_Check_2.l2 k 0 s w m).bind _ = _
        rw [g1]; rfl
      · have := eqF_symm (h i j g2 g3 g4.symm)
        rw [g5] at this; cases this
    · refine ⟨true, ?_, ⟨fun _ => ?_, fun _ => rfl⟩⟩
      · show (weight_Check_2.l2 k 0 s w m).bind _ = _
        rw [g1]; rfl
      · intro i j hi hj hij
        obtain ⟨j', h4, h5, h6⟩ := g2 i (by omega) hi ⟨j, hj, hij.symm⟩
        exact eqF_symm (eqF_trans (ok.f h4).1 (h3 j j' hj h4 (by rw [h5, hij]) ⟨i, hi, hij⟩) h6)
end Gp
set_option linter.unusedVariables false
set_option linter.unusedSimpArgs false
namespace Gp
open Gw Gq
def keepP (m : List (Int × Bool)) (t : Tile) : Bool := mget t.E false m
theorem del_l0 {m : List (Int × Bool)} {o : List Tile} (ho : o.length ≤ 100000) : ∀ (d j k i : Nat) (L : List Tile), j + d = o.length → d < k → L.length = o.length → i ≤ j → L.take i = (o.take j).filter (keepP m) → L.drop j = o.drop j →
    ∃ L' i', slices_DeleteFunc_api_Tile_api_Tile_with_weight_acyclic_1.l0 k L i j m = some (L', ((i' : Nat) : Int)) ∧ L'.length = o.length ∧ i' ≤ o.length ∧ L'.take i' = o.filter (keepP m)
  | 0, j, k, i, L, e, hk, hL, hi, h1, h2 => by
    obtain ⟨k, rfl⟩ : ∃ m, k = m + 1 := ⟨k - 1, by omega⟩
    refine ⟨L, i, by rw [slices_DeleteFunc_api_Tile_api_Tile_with_weight_acyclic_1.l0, if_neg (by simp; omega)], hL, by omega, ?_⟩
    rw [h1, List.take_of_length_le (by omega)]
  | d + 1, j, k, i, L, e, hk, hL, hi, h1, h2 => by
    obtain ⟨k, rfl⟩ : ∃ m, k = m + 1 := ⟨k - 1, by omega⟩
    have hj : j < L.length := by omega
    have hjo : j < o.length := by omega
    have hwj : w64 ((j : Int) + 1) = ((j + 1 : Nat) : Int) := by rw [w64_id (by omega) (by omega)]; rfl
    have hwi : w64 ((i : Int) + 1) = ((i + 1 : Nat) : Int) := by rw [w64_id (by omega) (by omega)]; rfl
    have hLj : L[j] = o[j] := by
      rw [List.drop_eq_getElem_cons hj, List.drop_eq_getElem_cons hjo] at h2
      injection h2
    have h3 : L.drop (j + 1) = o.drop (j + 1) := by
      rw [List.drop_eq_getElem_cons hj, List.drop_eq_getElem_cons hjo] at h2
      injection h2
    have ht : (o.take (j + 1)).filter (keepP m) = (o.take j).filter (keepP m) ++ if keepP m o[j] = true then [o[j]] else [] := by
      rw [List.take_succ_eq_append_getElem hjo, List.filter_append]
      congr 1
      simp only [List.filter_cons, List.filter_nil]
    have ha : weight_acyclic_1 (rdD L (j : Int) z_Tile) m = some (!keepP m o[j]) := by rw [rdD_get hj, hLj]; rfl
    rw [slices_DeleteFunc_api_Tile_api_Tile_with_weight_acyclic_1.l0, if_pos (by simpa using hj), if_pos (by omega), ha, Option.bind_some, hwj]
    cases hp : keepP m o[j]
    · rw [hp, if_neg (by decide), List.append_nil] at ht
      rw [if_neg (by decide), Option.bind_some]
      exact del_l0 ho d (j + 1) k i L (by omega) (by omega) hL (by omega) (by rw [h1, ht]) h3
    · rw [hp, if_pos rfl] at ht
      rw [if_pos (by decide), if_pos (by omega), Option.bind_some, hwi, rdD_get hj, hLj, Int.toNat_natCast]
      refine del_l0 ho d (j + 1) k (i + 1) _ (by omega) (by omega) (by rw [List.length_set, hL]) (by omega) ?_ ?_
      · rw [ht, ← h1, List.take_succ_eq_append_getElem (by rw [List.length_set]; omega), List.getElem_set_self, List.take_set_of_le (by omega)]
      · rw [List.drop_set_of_lt (by omega), h3]
theorem idx_l0 {m : List (Int × Bool)} {o : List Tile} (ho : o.length ≤ 100000) : ∀ (d j k : Nat), j + d = o.length → d < k →
    (∃ i, ∃ hi : i < o.length, j ≤ i ∧ slices_IndexFunc_api_Tile_api_Tile_with_weight_acyclic_1.l0 k j o m = some (.inl ((i : Nat) : Int)) ∧ keepP m o[i] = false ∧ ∀ x, (hx : x < o.length) → j ≤ x → x < i → keepP m o[x] = true) ∨
    (slices_IndexFunc_api_Tile_api_Tile_with_weight_acyclic_1.l0 k j o m = some (.inr ()) ∧ ∀ x, (hx : x < o.length) → j ≤ x → keepP m o[x] = true)
  | 0, j, k, e, hk => by
    obtain ⟨k, rfl⟩ : ∃ m, k = m + 1 := ⟨k - 1, by omega⟩
    exact .inr ⟨by rw [slices_IndexFunc_api_Tile_api_Tile_with_weight_acyclic_1.l0, if_neg (by simp; omega)], fun x hx h1 => by omega⟩
  | d + 1, j, k, e, hk => by
    obtain ⟨k, rfl⟩ : ∃ m, k = m + 1 := ⟨k - 1, by omega⟩
    have hj : j < o.length := by omega
    have hwj : w64 ((j : Int) + 1) = ((j + 1 : Nat) : Int) := by rw [w64_id (by omega) (by omega)]; rfl
    have ha : weight_acyclic_1 (rdD o (j : Int) z_Tile) m = some (!keepP m o[j]) := by rw [rdD_get hj]; rfl
    rw [slices_IndexFunc_api_Tile_api_Tile_with_weight_acyclic_1.l0, if_pos (by simpa using hj), if_pos (by omega), ha, Option.bind_some, hwj]
    cases hp : keepP m o[j]
    · exact .inl ⟨j, hj, by omega, by rw [if_pos (by decide)], hp, fun x hx h1 h2 => by omega⟩
    · rw [if_neg (by decide)]
      rcases idx_l0 ho d (j + 1) k (by omega) (by omega) with ⟨i, h2, h1, h3, hq, h4⟩ | ⟨h1, h2⟩
      · refine .inl ⟨i, h2, by omega, h3, hq, fun x hx h5 h6 => ?_⟩
        by_cases e2 : x = j
        · subst e2; exact hp
        · exact h4 x hx (by omega) h6
      · refine .inr ⟨h1, fun x hx h5 => ?_⟩
        by_cases e2 : x = j
        · subst e2; exact hp
        · exact h2 x hx (by omega)
theorem filter_all {p : Tile → Bool} {l : List Tile} (h : ∀ x, (hx : x < l.length) → p l[x] = true) : l.filter p = l := by
  rw [List.filter_eq_self]
  intro t ht
  obtain ⟨i, hi, rfl⟩ := List.getElem_of_mem ht
  exact h i hi
theorem delete_eq {m : List (Int × Bool)} {o : List Tile} (ho : o.length ≤ 100000) {k : Nat} (hk : o.length + 2 < k) : slices_DeleteFunc_api_Tile_api_Tile_with_weight_acyclic_1 k o m = some (o.filter (keepP m)) := by
  have hi := idx_l0 (m := m) ho o.length 0 k (by omega) (by omega)
  have hi : (∃ i, ∃ hi : i < o.length, 0 ≤ i ∧ slices_IndexFunc_api_Tile_api_Tile_with_weight_acyclic_1.l0 k 0 o m = some (.inl ((i : Nat) : Int)) ∧ keepP m o[i] = false ∧ _) ∨ (slices_IndexFunc_api_Tile_api_Tile_with_weight_acyclic_1.l0 k 0 o m = some (.inr ()) ∧ _) := hi
  unfold slices_DeleteFunc_api_Tile_api_Tile_with_weight_acyclic_1 slices_IndexFunc_api_Tile_api_Tile_with_weight_acyclic_1
  rcases hi with ⟨i, h1, _, h2, hp, h3⟩ | ⟨h1, h2⟩
  · have hwi : w64 ((i : Int) + 1) = ((i + 1 : Nat) : Int) := by rw [w64_id (by omega) (by omega)]; rfl
    rw [h2, Option.bind_some]
    show (if ((i : Int) == -1) = true then some o else _) = _
    rw [if_neg (by rw [beq_iff_eq]; omega), hwi]
    have e1 : (o.take (i + 1)).filter (keepP m) = o.take i := by
      rw [List.take_succ_eq_append_getElem h1, List.filter_append, filter_all (l := o.take i) (fun x hx => by
        rw [List.getElem_take]
        have : x < i := by rw [List.length_take] at hx; omega
        exact h3 x (by omega) (by omega) this)]
      simp [hp]
    obtain ⟨L', i', g1, g2, g3, g4⟩ := del_l0 (m := m) ho (o.length - (i + 1)) (i + 1) k i o (by omega) (by omega) rfl (by omega) e1.symm rfl
    rw [g1, Option.bind_some]
    show (if 0 ≤ (i' : Int) ∧ (i' : Int) ≤ (L'.length : Int) ∧ (L'.length : Int) ≤ (L'.length : Int) then _ else _) = _
    rw [if_pos (by omega), Int.toNat_natCast, g4]
  · rw [h1, Option.bind_some]
    rw [filter_all (fun x hx => h2 x hx (by omega))]
    rfl
end Gp
set_option linter.unusedVariables false
set_option linter.unusedSimpArgs false
namespace Gp
open Gw Gq
theorem acy_l1 {l : List Tile} (hl : l.length ≤ 100000) : ∀ (d x k : Nat) (m : List (Int × Bool)), x + d = l.length → d < k → (∀ c, mget c false m = true ↔ ∃ t ∈ l.take x, t.W = c) → ∃ m', weight_acyclic.l1 k m x l = some m' ∧ ∀ c, mget c false m' = true ↔ ∃ t ∈ l, t.W = c
  | 0, x, k, m, e, hk, h => by
    obtain ⟨k, rfl⟩ : ∃ m, k = m + 1 := ⟨k - 1, by omega⟩
    refine ⟨m, by rw [weight_acyclic.l1, if_neg (by simp; omega)], ?_⟩
    rwa [List.take_of_length_le (by omega)] at h
  | d + 1, x, k, m, e, hk, h => by
    obtain ⟨k, rfl⟩ : ∃ m, k = m + 1 := ⟨k - 1, by omega⟩
    have hx : x < l.length := by omega
    have hwx : w64 ((x : Int) + 1) = ((x + 1 : Nat) : Int) := by rw [w64_id (by omega) (by omega)]; rfl
    rw [weight_acyclic.l1, if_pos (by simpa using hx), if_pos (by omega), rdD_get hx, hwx]
    refine acy_l1 hl d (x + 1) k _ (by omega) (by omega) fun c => ?_
    rw [mgetW, List.take_succ_eq_append_getElem hx]
    by_cases hc : c = l[x].W
    · rw [if_pos hc]
      exact ⟨fun _ => ⟨l[x], List.mem_append_right _ (List.mem_singleton.2 rfl), hc.symm⟩, fun _ => rfl⟩
    · rw [if_neg hc, h]
      constructor
      · rintro ⟨t, h1, h2⟩; exact ⟨t, List.mem_append_left _ h1, h2⟩
      · rintro ⟨t, h1, h2⟩
        rcases List.mem_append.1 h1 with h1 | h1
        · exact ⟨t, h1, h2⟩
        · rw [List.mem_singleton] at h1
          exact absurd (by rw [← h2, h1]) hc
def noCyc (l : List Tile) : Prop := ∀ C : List Tile, (∀ t ∈ C, t ∈ l) → (∀ t ∈ C, ∃ u ∈ C, u.W = t.E) → C = []
theorem acy_l0 : ∀ (n k : Nat) (l : List Tile), l.length ≤ n → n ≤ 1000 → n + 2000 < k → (weight_acyclic.l0 k l = some (.inr ()) ∧ noCyc l) ∨ (weight_acyclic.l0 k l = some (.inl false) ∧ ¬ noCyc l)
  | n, k, l, hl, hn, hk => by
    obtain ⟨k, rfl⟩ : ∃ m, k = m + 1 := ⟨k - 1, by omega⟩
    by_cases h0 : l.length = 0
    · left
      have : l = [] := List.eq_nil_of_length_eq_zero h0
      subst this
      refine ⟨by rw [weight_acyclic.l0, if_neg (by simp)], fun C h1 _ => ?_⟩
      cases C with
      | nil => rfl
      | cons a C => exact absurd (h1 a (by simp)) (by simp)
    · obtain ⟨m, e1, h1⟩ := acy_l1 (l := l) (by omega) l.length 0 k [] (by omega) (by omega) (fun c => by simp [mget])
      have e1 : weight_acyclic.l1 k [] 0 l = some m := e1
      have hcl : slices_Clone_api_Tile_api_Tile l = some l := by
        unfold slices_Clone_api_Tile_api_Tile slices_Clone_api_Tile_api_Tile_some
        rw [if_pos (by simp; omega), List.nil_append]
      rw [weight_acyclic.l0, if_pos (by simp; omega), e1, Option.bind_some, hcl, Option.bind_some, delete_eq (by omega) (by omega), Option.bind_some]
      have keep : ∀ t, keepP m t = true ↔ ∃ u ∈ l, u.W = t.E := fun t => h1 t.E
      by_cases he : (l.filter (keepP m)).length = l.length
      · right
        refine ⟨by rw [if_pos (by rw [he]; simp)], fun hno => h0 ?_⟩
        have hall := List.length_filter_eq_length_iff.1 he
        rw [hno l (fun t ht => ht) (fun t ht => (keep t).1 (hall t ht))]; rfl
      · have hlt : (l.filter (keepP m)).length < l.length := Nat.lt_of_le_of_ne (List.length_filter_le _ _) he
        have hn0 : 0 < n := by omega
        rw [if_neg (by rw [beq_iff_eq]; omega)]
        rcases acy_l0 (n - 1) k (l.filter (keepP m)) (by omega) (by omega) (by omega) with ⟨g1, g2⟩ | ⟨g1, g2⟩
        · refine .inl ⟨g1, fun C c1 c2 => g2 C (fun t ht => ?_) c2⟩
          obtain ⟨u, hu, hw⟩ := c2 t ht
          exact List.mem_filter.2 ⟨c1 t ht, (keep t).2 ⟨u, c1 u hu, hw⟩⟩
        · exact .inr ⟨g1, fun hno => g2 fun C c1 c2 => hno C (fun t ht => (List.mem_filter.1 (c1 t ht)).1) c2⟩
termination_by n => n
theorem acyclic_eq {l : List Tile} (hl : l.length ≤ 1000) {k : Nat} (hk : 3000 < k) : ∃ b, weight_acyclic k l = some b ∧ (b = true ↔ noCyc l) := by
  unfold weight_acyclic
  rcases acy_l0 1000 k l hl (by omega) (by omega) with ⟨h1, h2⟩ | ⟨h1, h2⟩
  · exact ⟨true, by rw [h1]; rfl, ⟨fun _ => h2, fun _ => rfl⟩⟩
  · exact ⟨false, by rw [h1]; rfl, ⟨fun h => (by cases h), fun h => absurd h h2⟩⟩
def zeroT (s : List Tile) (w : Weights) : List Tile := s.filter fun t => (fr w.Values t.S).Num == 0
theorem ck3_l0 {s : List Tile} {w : Weights} (ok : OKW s w) : ∀ (d x k : Nat) (acc : List Tile), x + d = s.length → d < k → acc.length ≤ x → weight_Check_3.l0 k acc x s w = some (acc ++ (s.drop x).filter fun t => (fr w.Values t.S).Num == 0)
  | 0, x, k, acc, e, hk, ha => by
    obtain ⟨k, rfl⟩ : ∃ m, k = m + 1 := ⟨k - 1, by omega⟩
    rw [weight_Check_3.l0, if_neg (by simp; omega), List.drop_of_length_le (by omega)]; simp
  | d + 1, x, k, acc, e, hk, ha => by
    obtain ⟨k, rfl⟩ : ∃ m, k = m + 1 := ⟨k - 1, by omega⟩
    have hl := ok.len
    have hx : x < s.length := by omega
    have hwx : w64 ((x : Int) + 1) = ((x + 1 : Nat) : Int) := by rw [w64_id (by omega) (by omega)]; rfl
    have hS := ok.S x hx
    have ht : rdD s (x : Int) z_Tile = s[x] := rdD_get hx _
    rw [weight_Check_3.l0, if_pos (by simpa using hx), if_pos (by omega), if_pos hS, hwx, ht, List.drop_eq_getElem_cons hx, List.filter_cons]
    by_cases h0 : (fr w.Values s[x].S).Num = 0
    · have h0' : ((rdD w.Values s[x].S z_Frac).Num == 0) = true := by simpa using h0
      rw [if_pos h0', if_pos (by simp; omega), Option.bind_some, ck3_l0 ok d (x + 1) k _ (by omega) (by omega) (by simp; omega), if_pos h0', List.append_assoc]; rfl
    · have h0' : ¬ ((rdD w.Values s[x].S z_Frac).Num == 0) = true := by simpa using h0
      rw [if_neg h0', Option.bind_some, ck3_l0 ok d (x + 1) k _ (by omega) (by omega) (by omega), if_neg h0']
theorem ck3_eq {s : List Tile} {w : Weights} (ok : OKW s w) {k : Nat} (hk : 5000 < k) : ∃ b, weight_Check_3 k s w = some b ∧ (b = true ↔ noCyc (zeroT s w)) := by
  have hl := ok.len
  have l0 := ck3_l0 ok s.length 0 k [] (by omega) (by omega) (by simp)
  have l0 : weight_Check_3.l0 k [] 0 s w = _ := l0
  obtain ⟨b, h1, h2⟩ := acyclic_eq (l := zeroT s w) (Nat.le_trans (List.length_filter_le _ _) hl) (k := k) (by omega)
  unfold weight_Check_3
  rw [l0, Option.bind_some, List.nil_append, List.drop_zero]
  exact ⟨b, by show (weight_acyclic k (zeroT s w)).bind _ = _; rw [h1]; rfl, h2⟩
end Gp
set_option linter.unusedVariables false
set_option linter.unusedSimpArgs false
namespace Gp
open Gw Gq
theorem w64_nat {n : Nat} (h : n ≤ 1000000000) : w64 (n : Int) = n := w64_id (by omega) (by omega)
theorem gcd_l0 : ∀ (k a b : Nat), b < k → weight_gcd.l0 k (a : Int) (b : Int) = some ((Nat.gcd a b : Nat) : Int)
  | 0, a, b, h => by omega
  | k + 1, a, b, h => by
    rw [weight_gcd.l0]
    by_cases h0 : b = 0
    · subst h0
      rw [if_neg (by simp), Nat.gcd_zero_right]
    · rw [if_pos (by simpa using h0), if_pos (by omega)]
      show weight_gcd.l0 k (b : Int) ((a % b : Nat) : Int) = _
      have := Nat.mod_lt a (show 0 < b by omega)
      rw [gcd_l0 k b (a % b) (by omega), Nat.gcd_comm a b, Nat.gcd_rec b a, Nat.gcd_comm (a % b) b]
theorem gcd_eq {a b k : Nat} (h : b < k) : weight_gcd k (a : Int) (b : Int) = some ((Nat.gcd a b : Nat) : Int) := by
  unfold weight_gcd
  rw [gcd_l0 k a b h]; rfl
theorem lowest_eq {a b k : Nat} (ha : 1 ≤ a ∧ a ≤ 1000000) (hb : 1 ≤ b ∧ b ≤ 1000000) (hk : 1000001 < k) : weight_fraction_lowest k ⟨(a : Int), (b : Int)⟩ = some ⟨((a / Nat.gcd a b : Nat) : Int), ((b / Nat.gcd a b : Nat) : Int)⟩ := by
  have hg : 0 < Nat.gcd a b := Nat.gcd_pos_of_pos_left _ (by omega)
  unfold weight_fraction_lowest
  simp only
  have hm : maxI (a : Int) (w64 (0 - (a : Int))) = (a : Int) := by
    rw [w64_id (by omega) (by omega)]
    unfold maxI; split <;> omega
  have h1 : a / Nat.gcd a b ≤ a := Nat.div_le_self _ _
  have h2 : b / Nat.gcd a b ≤ b := Nat.div_le_self _ _
  rw [hm, gcd_eq (by omega), Option.bind_some, if_pos (by omega)]
  have e1 : Int.tdiv (a : Int) ((Nat.gcd a b : Nat) : Int) = ((a / Nat.gcd a b : Nat) : Int) := rfl
  have e2 : Int.tdiv (b : Int) ((Nat.gcd a b : Nat) : Int) = ((b / Nat.gcd a b : Nat) : Int) := rfl
  rw [e1, e2, w64_nat (Nat.le_trans h1 (by omega)), w64_nat (Nat.le_trans h2 (by omega))]
structure DivO (p n n' a : Nat) : Prop where
  eq : n = n' * p ^ a
  no : ¬ p ∣ n'
theorem divo_lt {p n n' a : Nat} (hp : 2 ≤ p) (hn : 1 ≤ n) (h : DivO p n n' a) : 1 ≤ n' ∧ n' ≤ n ∧ a < n := by
  have h1 : 1 ≤ n' := by
    rcases Nat.eq_zero_or_pos n' with h0 | h0
    · have := h.eq; rw [h0, Nat.zero_mul] at this; omega
    · exact h0
  have h2 : a < p ^ a := Nat.lt_pow_self (by omega)
  have h3 : 1 ≤ p ^ a := Nat.one_le_pow _ _ (by omega)
  refine ⟨h1, ?_, ?_⟩
  · rw [h.eq]; exact Nat.le_mul_of_pos_right _ h3
  · have : p ^ a ≤ n' * p ^ a := Nat.le_mul_of_pos_left _ h1
    rw [← h.eq] at this; omega
theorem grow_div {w : Weights} {i : Nat} {p : Nat} (hp : rdD w.Primes (i : Int) 0 = (p : Int)) (h2 : 2 ≤ p) (hL : i < w.Logs.length) {L : Int} (hLv : rdD w.Logs (i : Int) 0 = L) (hLb : -1000 ≤ L ∧ L ≤ 1000) : ∀ (k n : Nat) (sum : Int), 1 ≤ n → n ≤ 1000000 → n < k → -1000000000000000 ≤ sum - 1000 * n → sum + 1000 * n ≤ 1000000000000000 →
    ∃ n' a, weight_grows.l1 k (n : Int) sum w i = some (((n' : Nat) : Int), sum + (a : Nat) * L) ∧ DivO p n n' a
  | 0, n, sum, h1, hn, hk, s1, s2 => by omega
  | k + 1, n, sum, h1, hn, hk, s1, s2 => by
    rw [weight_grows.l1, hp, if_pos (by omega)]
    have e1 : Int.tmod (n : Int) (p : Int) = ((n % p : Nat) : Int) := rfl
    have e2 : Int.tdiv (n : Int) (p : Int) = ((n / p : Nat) : Int) := rfl
    rw [e1, e2, hLv]
    by_cases hd : n % p = 0
    · have hq : n / p * p = n := Nat.div_mul_cancel (Nat.dvd_of_mod_eq_zero hd)
      have hq1 : 1 ≤ n / p := by
        rcases Nat.eq_zero_or_pos (n / p) with h0 | h0
        · rw [h0, Nat.zero_mul] at hq; omega
        · exact h0
      have hq2 : n / p * 2 ≤ n := by
        calc n / p * 2 ≤ n / p * p := Nat.mul_le_mul_left _ h2
          _ = n := hq
      obtain ⟨n', a, g1, g2⟩ := grow_div hp h2 hL hLv hLb k (n / p) (sum + L) hq1 (by omega) (by omega) (by omega) (by omega)
      rw [if_pos (by rw [hd]; rfl), if_pos (by omega), w64_nat (n := n / p) (Nat.le_trans (Nat.div_le_self _ _) (by omega)), w64_id (by omega) (by omega), g1]
      refine ⟨n', a + 1, ?_, ⟨by rw [Nat.pow_succ, ← Nat.mul_assoc, ← g2.eq, hq], g2.no⟩⟩
      rw [show sum + ((a + 1 : Nat) : Int) * L = sum + L + (a : Int) * L by rw [Int.natCast_add, Int.add_mul]; omega]
    · rw [if_neg (by rw [beq_iff_eq]; omega)]
      exact ⟨n, 0, by rw [show sum + ((0 : Nat) : Int) * L = sum by omega], ⟨by simp, fun h => hd (Nat.mod_eq_zero_of_dvd h)⟩⟩
theorem shrink_div {w : Weights} {i : Nat} {p : Nat} (hp : rdD w.Primes (i : Int) 0 = (p : Int)) (h2 : 2 ≤ p) (hL : i < w.Logs.length) {L : Int} (hLv : rdD w.Logs (i : Int) 0 = L) (hLb : -1000 ≤ L ∧ L ≤ 1000) : ∀ (k n : Nat) (sum : Int), 1 ≤ n → n ≤ 1000000 → n < k → -1000000000000000 ≤ sum - 1000 * n → sum + 1000 * n ≤ 1000000000000000 →
    ∃ n' a, weight_grows.l2 k (n : Int) sum w i = some (((n' : Nat) : Int), sum - (a : Nat) * L) ∧ DivO p n n' a
  | 0, n, sum, h1, hn, hk, s1, s2 => by omega
  | k + 1, n, sum, h1, hn, hk, s1, s2 => by
    rw [weight_grows.l2, hp, if_pos (by omega)]
    have e1 : Int.tmod (n : Int) (p : Int) = ((n % p : Nat) : Int) := rfl
    have e2 : Int.tdiv (n : Int) (p : Int) = ((n / p : Nat) : Int) := rfl
    rw [e1, e2, hLv]
    by_cases hd : n % p = 0
    · have hq : n / p * p = n := Nat.div_mul_cancel (Nat.dvd_of_mod_eq_zero hd)
      have hq1 : 1 ≤ n / p := by
        rcases Nat.eq_zero_or_pos (n / p) with h0 | h0
        · rw [h0, Nat.zero_mul] at hq; omega
        · exact h0
      have hq2 : n / p * 2 ≤ n := by
        calc n / p * 2 ≤ n / p * p := Nat.mul_le_mul_left _ h2
          _ = n := hq
      obtain ⟨n', a, g1, g2⟩ := shrink_div hp h2 hL hLv hLb k (n / p) (sum - L) hq1 (by omega) (by omega) (by omega) (by omega)
      rw [if_pos (by rw [hd]; rfl), if_pos (by omega), w64_nat (n := n / p) (Nat.le_trans (Nat.div_le_self _ _) (by omega)), w64_id (by omega) (by omega), g1]
      refine ⟨n', a + 1, ?_, ⟨by rw [Nat.pow_succ, ← Nat.mul_assoc, ← g2.eq, hq], g2.no⟩⟩
      rw [show sum - ((a + 1 : Nat) : Int) * L = sum - L - (a : Int) * L by rw [Int.natCast_add, Int.add_mul]; omega]
    · rw [if_neg (by rw [beq_iff_eq]; omega)]
      exact ⟨n, 0, by rw [show sum - ((0 : Nat) : Int) * L = sum by omega], ⟨by simp, fun h => hd (Nat.mod_eq_zero_of_dvd h)⟩⟩
end Gp
set_option linter.unusedVariables false
set_option linter.unusedSimpArgs false
namespace Gp
open Gw Gq
def pr (w : Weights) (i : Nat) : Nat := (rdD w.Primes (i : Int) 0).toNat
def lg (w : Weights) (i : Nat) : Int := rdD w.Logs (i : Int) 0
structure OKP (w : Weights) : Prop where
  len : w.Primes.length ≤ 12
  ll : w.Logs.length = w.Primes.length
  p : ∀ i, i < w.Primes.length → rdD w.Primes (i : Int) 0 = (pr w i : Int) ∧ 2 ≤ pr w i ∧ pr w i ≤ 1000000
  l : ∀ i, i < w.Primes.length → -1000 ≤ lg w i ∧ lg w i ≤ 1000
def powL (w : Weights) : Nat → List Nat → Nat
  | _, [] => 1
  | i, a :: r => pr w i ^ a * powL w (i + 1) r
def logL (w : Weights) : Nat → List Nat → Int
  | _, [] => 0
  | i, a :: r => (a : Int) * lg w i + logL w (i + 1) r
theorem al_bd {a n : Nat} {L : Int} (ha : a < n) (hn : n ≤ 1000000) (hL : -1000 ≤ L ∧ L ≤ 1000) : -1000000000 ≤ (a : Int) * L ∧ (a : Int) * L ≤ 1000000000 := by
  have h : ((a : Int) * L).natAbs ≤ 1000000 * 1000 := by rw [Int.natAbs_mul]; exact Nat.mul_le_mul (by omega) (by omega)
  omega
def factP (w : Weights) (f : Frac) : Prop := ∃ xa xb : List Nat, xa.length = w.Primes.length ∧ xb.length = w.Primes.length ∧ f.Num * ((powL w 0 xb : Nat) : Int) = f.Den * ((powL w 0 xa : Nat) : Int) ∧ 0 < logL w 0 xa - logL w 0 xb
end Gp
set_option linter.unusedVariables false
set_option linter.unusedSimpArgs false
namespace Gp
open Gw Gq
end Gp
set_option linter.unusedVariables false
set_option linter.unusedSimpArgs false
namespace Gp
open Gw Gq
def isP (p : Nat) : Prop := ∀ d, 2 ≤ d → d * d ≤ p → ¬ d ∣ p
theorem prime_l0 {p : Nat} (hp : p ≤ 1000000) : ∀ (k d : Nat), 2 ≤ d → d ≤ 1001 → 1002 - d < k → (∀ e, 2 ≤ e → e < d → ¬ e ∣ p) → weight_prime.l0 k (d : Int) (p : Int) = some (.inl false) ∨ (weight_prime.l0 k (d : Int) (p : Int) = some (.inr ()) ∧ isP p)
  | 0, d, h2, h3, hk, h => by omega
  | k + 1, d, h2, h3, hk, h => by
    have hdd : d * d ≤ 1001 * 1001 := Nat.mul_le_mul h3 h3
    have hw : w64 ((d : Int) * (d : Int)) = ((d * d : Nat) : Int) := by rw [← Int.natCast_mul]; exact w64_nat (by omega)
    have hwd : w64 ((d : Int) + 1) = ((d + 1 : Nat) : Int) := by rw [w64_id (by omega) (by omega)]; rfl
    have em : Int.tmod (p : Int) (d : Int) = ((p % d : Nat) : Int) := rfl
    rw [weight_prime.l0, hw, hwd, em]
    by_cases hle : d * d ≤ p
    · rw [if_pos (by rw [decide_eq_true_eq]; omega), if_pos (by omega)]
      by_cases hm : p % d = 0
      · left; rw [if_pos (by rw [hm]; rfl)]
      · rw [if_neg (by rw [beq_iff_eq]; omega)]
        have hd1 : d ≤ 1000 := by
          rcases Nat.lt_or_ge 1000 d with h5 | h5
          · exfalso
            have : 1001 * 1001 ≤ d * d := Nat.mul_le_mul h5 h5
            omega
          · exact h5
        exact prime_l0 hp k (d + 1) (by omega) (by omega) (by omega) fun e h5 h6 h7 => by
          by_cases e2 : e = d
          · subst e2; exact hm (Nat.mod_eq_zero_of_dvd h7)
          · exact h e h5 (by omega) h7
    · rw [if_neg (by rw [decide_eq_true_eq]; omega)]
      refine .inr ⟨rfl, fun e h5 h6 => h e h5 ?_⟩
      rcases Nat.lt_or_ge e d with h7 | h7
      · exact h7
      · exfalso
        have : d * d ≤ e * e := Nat.mul_le_mul h7 h7
        omega
theorem coprime_of {p q : Nat} (hp : isP p) (hq : isP q) (p2 : 2 ≤ p) (q2 : 2 ≤ q) (hne : p ≠ q) : Nat.Coprime p q := by
  have key : ∀ p, isP p → 2 ≤ p → ∀ d, 2 ≤ d → d ∣ p → d = p := fun p hp p2 d hd h => by
    obtain ⟨e, rfl⟩ := h
    by_cases he : e ≤ 1
    · have : e = 1 := by
        rcases Nat.eq_zero_or_pos e with h0 | h0
        · subst h0; omega
        · omega
      rw [this, Nat.mul_one]
    · exfalso
      rcases Nat.le_total d e with h1 | h1
      · exact hp d hd (Nat.mul_le_mul_left _ h1) ⟨e, rfl⟩
      · exact hp e (by omega) (by rw [Nat.mul_comm d e]; exact Nat.mul_le_mul_left _ h1) ⟨d, Nat.mul_comm d e⟩
  have hg : Nat.gcd p q = 1 ∨ 2 ≤ Nat.gcd p q := by
    have : 0 < Nat.gcd p q := Nat.gcd_pos_of_pos_left _ (by omega)
    omega
  rcases hg with h | h
  · exact h
  · exact absurd ((key p hp p2 _ h (Nat.gcd_dvd_left p q)).symm.trans (key q hq q2 _ h (Nat.gcd_dvd_right p q))) hne
end Gp
set_option linter.unusedVariables false
set_option linter.unusedSimpArgs false
namespace Gp
open Gw Gq
def okI (w : Weights) (i : Nat) : Prop := ∃ p : Nat, rdD w.Primes (i : Int) 0 = (p : Int) ∧ (2 ≤ p ∧ p ≤ 1000000) ∧ isP p ∧ (∀ j, j < i → rdD w.Primes (j : Int) 0 ≠ (p : Int)) ∧ (-1000 ≤ lg w i ∧ lg w i ≤ 1000)
end Gp
set_option linter.unusedVariables false
set_option linter.unusedSimpArgs false
namespace Gp
open Gw Gq
theorem vT_iff (s : List Tile) : validT s = true ↔ s.length ≤ 1000 ∧ s.Nodup ∧ ∀ t ∈ s, colB t = true := by
  unfold validT
  simp only [Bool.and_eq_true, decide_eq_true_eq, List.all_eq_true, List.mem_range]
  have hg : ∀ i (h : i < s.length), s.getD i z_Tile = s[i] := fun i h => by simp [List.getElem?_eq_getElem h]
  refine and_congr_right fun _ => ⟨fun h => ⟨?_, fun t ht => ?_⟩, fun h i hi => ?_⟩
  · rw [List.Nodup, List.pairwise_iff_getElem]
    intro i j hi hj hij he
    have := h j hj
    unfold newB at this
    rw [hg j hj, Bool.and_eq_true, Bool.not_eq_true', decide_eq_false_iff_not] at this
    exact this.1 (by rw [← he]; exact List.mem_take_iff_getElem.2 ⟨i, by omega, rfl⟩)
  · obtain ⟨i, hi, rfl⟩ := List.getElem_of_mem ht
    have := h i hi
    unfold newB at this
    rw [hg i hi, Bool.and_eq_true] at this
    exact this.2
  · unfold newB
    rw [hg i hi, h.2 _ (List.getElem_mem hi), Bool.and_true, Bool.not_eq_true', decide_eq_false_iff_not]
    intro hm
    obtain ⟨j, hj, he⟩ := List.mem_take_iff_getElem.1 hm
    have := h.1
    rw [List.Nodup, List.pairwise_iff_getElem] at this
    exact this j i (by omega) hi (by omega) he
theorem vT_col {s : List Tile} (hv : validT s = true) : ∀ i, i < s.length → (0 ≤ (tw s i).N ∧ (tw s i).N < 1000) ∧ (0 ≤ (tw s i).E ∧ (tw s i).E < 1000) ∧ (0 ≤ (tw s i).S ∧ (tw s i).S < 1000) ∧ (0 ≤ (tw s i).W ∧ (tw s i).W < 1000) := fun i hi => by
  have := ((vT_iff s).1 hv).2.2 s[i] (List.getElem_mem hi)
  rw [tw_get hi]
  unfold colB inCol at this
  simp only [Bool.and_eq_true, decide_eq_true_eq] at this
  omega
def coP (w : Weights) : Prop := ∀ i j, i < w.Primes.length → j < w.Primes.length → i ≠ j → Nat.Coprime (pr w i) (pr w j)
theorem okI_all {w : Weights} (hl : w.Primes.length ≤ 12) (hll : w.Logs.length = w.Primes.length) (h : ∀ j, j < w.Primes.length → okI w j) : OKP w ∧ coP w := by
  have hpr : ∀ i, i < w.Primes.length → ∀ p : Nat, rdD w.Primes (i : Int) 0 = (p : Int) → pr w i = p := fun i _ p hp => by unfold pr; rw [hp]; rfl
  refine ⟨⟨hl, hll, fun i hi => ?_, fun i hi => ?_⟩, fun i j hi hj hne => ?_⟩
  · obtain ⟨p, h1, h2, _⟩ := h i hi
    rw [hpr i hi p h1]
    exact ⟨h1, h2⟩
  · obtain ⟨p, _, _, _, _, h5⟩ := h i hi
    exact h5
  · obtain ⟨p, h1, h2, h3, h4, _⟩ := h i hi
    obtain ⟨q, g1, g2, g3, g4, _⟩ := h j hj
    rw [hpr i hi p h1, hpr j hj q g1]
    refine coprime_of h3 g3 h2.1 g2.1 fun e => ?_
    rcases Nat.lt_or_gt_of_ne hne with hlt | hlt
    · exact g4 i hlt (by rw [h1, e])
    · exact h4 j hlt (by rw [g1, ← e])
structure Checked (s : List Tile) (w : Weights) : Prop where
  valid : validT s = true
  ok : OKW s w
  op : OKP w
  co : coP w
  bal : (List.range s.length).all (balT s w) = true
  pairs : pairsF s w
  cyc : noCyc (zeroT s w)
  fact : ∀ f ∈ w.Factors, factP w f
end Gp
set_option linter.unusedVariables false
set_option linter.unusedSimpArgs false
namespace Gp
open Gw Gq
theorem val_bal {fn fd sn sd wn wd nn nd en ed : Rat} (h1 : fd ≠ 0) (h2 : sd ≠ 0) (h3 : wd ≠ 0) (h4 : nd ≠ 0) (h5 : ed ≠ 0) (h : fn * sn * wd * nd * ed + wn * fd * sd * nd * ed - nn * fd * sd * wd * ed - en * fd * sd * wd * nd = 0) : fn / fd * (sn / sd) + wn / wd = nn / nd + en / ed := by grind
theorem val_eqv {an ad bn bd : Rat} (h1 : ad ≠ 0) (h2 : bd ≠ 0) (h : an * bd = bn * ad) : an / ad = bn / bd := by grind
def vl (f : Frac) : Rat := (f.Num : Rat) / (f.Den : Rat)
theorem den_ne {f : Frac} (h : okF f) : (f.Den : Rat) ≠ 0 := fun e => by
  have : f.Den = 0 := Rat.intCast_inj.1 (by rw [e]; rfl)
  have := h.2.1
  omega
theorem bal_vl {f s w n e : Frac} (hf : okF f) (hs : okF s) (hw : okF w) (hn : okF n) (he : okF e) (h : balD f s w n e = 0) : vl f * vl s + vl w = vl n + vl e := by
  unfold vl
  refine val_bal (den_ne hf) (den_ne hs) (den_ne hw) (den_ne hn) (den_ne he) ?_
  unfold balD at h
  have h2 := congrArg (fun z : Int => (z : Rat)) h
  simp only [Rat.intCast_sub, Rat.intCast_add, Rat.intCast_mul] at h2
  rw [h2]; rfl
theorem eqF_vl {a b : Frac} (ha : okF a) (hb : okF b) (h : eqF a b = true) : vl a = vl b := by
  unfold eqF at h
  rw [decide_eq_true_eq] at h
  unfold vl
  refine val_eqv (den_ne ha) (den_ne hb) ?_
  have h2 := congrArg (fun z : Int => (z : Rat)) h
  simpa only [Rat.intCast_mul] using h2
/-! powers of numbers without common divisors -/
end Gp
set_option linter.unusedVariables false
set_option linter.unusedSimpArgs false
namespace Gp
open Gw Gq
def sumR (g : Nat → Rat) : Nat → Rat
  | 0 => 0
  | n + 1 => sumR g n + g n
end Gp
set_option linter.unusedVariables false
set_option linter.unusedSimpArgs false
namespace Gp
open Gw Gq
end Gp
set_option linter.unusedVariables false
set_option linter.unusedSimpArgs false
namespace Gp
open Gw Gq
theorem awake06_ok (k : Nat) : law06_awake (k + 400) = some true := by kernel_rfl
theorem wide06 (s : List Tile) (w : Weights) : ∃ b, law06_wide s w = some b := ⟨_, rfl⟩
end Gp
set_option linter.unusedVariables false
set_option linter.unusedSimpArgs false
namespace Gp
open Gw Gq
def mxV (v : Int) (t : Tile) : Int := maxI (maxI v (t.N + 1)) (t.S + 1)
def mxH (v : Int) (t : Tile) : Int := maxI (maxI v (t.E + 1)) (t.W + 1)
def cV (s : List Tile) : Int := s.foldl mxV 0
def cH (s : List Tile) : Int := s.foldl mxH 0
theorem need2_l0 {s : List Tile} (hl : s.length ≤ 1000) (hc : ∀ i, i < s.length → (0 ≤ (tw s i).N ∧ (tw s i).N < 1000) ∧ (0 ≤ (tw s i).E ∧ (tw s i).E < 1000) ∧ (0 ≤ (tw s i).S ∧ (tw s i).S < 1000) ∧ (0 ≤ (tw s i).W ∧ (tw s i).W < 1000)) : ∀ (d x k : Nat) (v c : Int), x + d = s.length → d < k →
    weight_needed.l0 k v c x s = some ((s.drop x).foldl mxV v, (s.drop x).foldl mxH c) ∧ ref06_Colours.l0 k v c x s = some ((s.drop x).foldl mxV v, (s.drop x).foldl mxH c)
  | 0, x, k, v, c, e, hk => by
    obtain ⟨k, rfl⟩ : ∃ m, k = m + 1 := ⟨k - 1, by omega⟩
    rw [List.drop_of_length_le (by omega), weight_needed.l0, ref06_Colours.l0, if_neg (by simp; omega), if_neg (by simp; omega)]
    exact ⟨rfl, rfl⟩
  | d + 1, x, k, v, c, e, hk => by
    obtain ⟨k, rfl⟩ : ∃ m, k = m + 1 := ⟨k - 1, by omega⟩
    have hx : x < s.length := by omega
    have hwx : w64 ((x : Int) + 1) = ((x + 1 : Nat) : Int) := by rw [w64_id (by omega) (by omega)]; rfl
    obtain ⟨⟨n0, n1⟩, ⟨q0, q1⟩, ⟨s0, s1⟩, ⟨w0, w1⟩⟩ := hc x hx
    have wn : w64 ((rdD s (x : Int) z_Tile).N + 1) = (tw s x).N + 1 := w64_id (n := (tw s x).N + 1) (by omega) (by omega)
    have ws : w64 ((rdD s (x : Int) z_Tile).S + 1) = (tw s x).S + 1 := w64_id (n := (tw s x).S + 1) (by omega) (by omega)
    have we : w64 ((rdD s (x : Int) z_Tile).E + 1) = (tw s x).E + 1 := w64_id (n := (tw s x).E + 1) (by omega) (by omega)
    have ww : w64 ((rdD s (x : Int) z_Tile).W + 1) = (tw s x).W + 1 := w64_id (n := (tw s x).W + 1) (by omega) (by omega)
    rw [weight_needed.l0, ref06_Colours.l0, if_pos (by simpa using hx), if_pos (by omega), if_pos (by simpa using hx), if_pos (by omega), hwx, wn, ws, we, ww, tw_get hx, List.drop_eq_getElem_cons hx, List.foldl_cons, List.foldl_cons]
    exact need2_l0 hl hc d (x + 1) k _ _ (by omega) (by omega)
theorem need2_eq {s : List Tile} (hv : validT s = true) {k : Nat} (hk : 2000 < k) : weight_needed k s = some (cV s, cH s) ∧ ref06_Colours k s = some (cV s, cH s) := by
  have hl : s.length ≤ 1000 := ((vT_iff s).1 hv).1
  have h := need2_l0 hl (vT_col hv) s.length 0 k 0 0 (by omega) (by omega)
  rw [List.drop_zero] at h
  have h1 : weight_needed.l0 k 0 0 0 s = some (cV s, cH s) := h.1
  have h2 : ref06_Colours.l0 k 0 0 0 s = some (cV s, cH s) := h.2
  unfold weight_needed ref06_Colours
  rw [h1, h2]; exact ⟨rfl, rfl⟩
theorem foldV_ge : ∀ (l : List Tile) (v : Int), v ≤ l.foldl mxV v ∧ ∀ t ∈ l, t.N < l.foldl mxV v ∧ t.S < l.foldl mxV v
  | [], v => ⟨Int.le_refl _, fun t h => by cases h⟩
  | t :: l, v => by
    obtain ⟨h1, h2⟩ := foldV_ge l (mxV v t)
    have h3 : v ≤ mxV v t ∧ t.N < mxV v t ∧ t.S < mxV v t := by unfold mxV maxI; omega
    rw [List.foldl_cons]
    refine ⟨by omega, fun u hu => ?_⟩
    rcases List.mem_cons.1 hu with rfl | hu
    · omega
    · exact h2 u hu
theorem foldH_ge : ∀ (l : List Tile) (v : Int), v ≤ l.foldl mxH v ∧ ∀ t ∈ l, t.E < l.foldl mxH v ∧ t.W < l.foldl mxH v
  | [], v => ⟨Int.le_refl _, fun t h => by cases h⟩
  | t :: l, v => by
    obtain ⟨h1, h2⟩ := foldH_ge l (mxH v t)
    have h3 : v ≤ mxH v t ∧ t.E < mxH v t ∧ t.W < mxH v t := by unfold mxH maxI; omega
    rw [List.foldl_cons]
    refine ⟨by omega, fun u hu => ?_⟩
    rcases List.mem_cons.1 hu with rfl | hu
    · omega
    · exact h2 u hu
theorem foldV_le {B : Int} : ∀ (l : List Tile) (v : Int), (∀ t ∈ l, t.N < B ∧ t.S < B) → v ≤ B → l.foldl mxV v ≤ B
  | [], v, _, h => h
  | t :: l, v, hl, h => by
    have := hl t List.mem_cons_self
    exact foldV_le l _ (fun u hu => hl u (List.mem_cons_of_mem _ hu)) (by unfold mxV maxI; omega)
theorem foldH_le {B : Int} : ∀ (l : List Tile) (v : Int), (∀ t ∈ l, t.E < B ∧ t.W < B) → v ≤ B → l.foldl mxH v ≤ B
  | [], v, _, h => h
  | t :: l, v, hl, h => by
    have := hl t List.mem_cons_self
    exact foldH_le l _ (fun u hu => hl u (List.mem_cons_of_mem _ hu)) (by unfold mxH maxI; omega)
def okFb (f : Frac) : Bool := (((decide (f.Den ≥ 1)) && (decide (f.Den ≤ 1000000))) && (decide (f.Num ≥ (-1000000)))) && (decide (f.Num ≤ 1000000))
theorem okFb_iff (f : Frac) : okFb f = true ↔ okF f := by
  unfold okFb okF
  simp only [Bool.and_eq_true, decide_eq_true_eq]
  omega
theorem all2 (l0 : Nat → Int → List Frac → Option (Sum Int Unit)) (q : Nat → Frac → Option Bool) (heq : ∀ k x l, l0 (k + 1) x l = if (decide (x < (l.length : Int))) = true then (if 0 ≤ x ∧ x < (l.length : Int) then ((q k (rdD l x z_Frac)).bind fun t => if t = true then (some (.inl x)) else (l0 k (w64 (x + 1)) l)) else none) else (some (.inr ())))
    (l : List Frac) (hl : l.length ≤ 100000) (K : Nat) (p : Frac → Bool) (hq : ∀ k, K < k → ∀ f ∈ l, q k f = some (!p f)) : ∀ (d x k : Nat), x + d = l.length → d + K + 1 < k →
    (∃ r : Nat, l0 k x l = some (.inl (r : Int)) ∧ (l.drop x).all p = false) ∨ (l0 k x l = some (.inr ()) ∧ (l.drop x).all p = true)
  | 0, x, k, e, hk => by
    obtain ⟨k, rfl⟩ : ∃ m, k = m + 1 := ⟨k - 1, by omega⟩
    right
    rw [List.drop_of_length_le (by omega)]
    exact ⟨by rw [heq, if_neg (by simp; omega)], rfl⟩
  | d + 1, x, k, e, hk => by
    obtain ⟨k, rfl⟩ : ∃ m, k = m + 1 := ⟨k - 1, by omega⟩
    have hx : x < l.length := by omega
    have hwx : w64 ((x : Int) + 1) = ((x + 1 : Nat) : Int) := by rw [w64_id (by omega) (by omega)]; rfl
    rw [heq, if_pos (by simpa using hx), if_pos (by omega), rdD_get hx, hq k (by omega) l[x] (List.getElem_mem hx), Option.bind_some, hwx, List.drop_eq_getElem_cons hx, List.all_cons]
    cases p l[x]
    · exact .inl ⟨x, by rw [if_pos (by rfl)], by rw [Bool.false_and]⟩
    · rw [if_neg (by decide), Bool.true_and]
      exact all2 l0 q heq l hl K p hq d (x + 1) k (by omega) (by omega)
theorem allfv2 {l : List Frac} (hl : l.length ≤ 100000) {k : Nat} (hk : l.length + 10 < k) : weight_all_with_weight_fraction_valid k l = some (l.all okFb) := by
  have h := all2 slices_IndexFunc_api_Frac_api_Frac_with_weight_all_1_of_weight_fraction_valid.l0 (fun _ f => weight_all_1_of_weight_fraction_valid f) (fun _ _ _ => rfl) l hl 0 okFb (fun k _ f hf => rfl) l.length 0 k (by omega) (by omega)
  rw [List.drop_zero] at h
  have h : (∃ r : Nat, slices_IndexFunc_api_Frac_api_Frac_with_weight_all_1_of_weight_fraction_valid.l0 k 0 l = some (.inl (r : Int)) ∧ _) ∨ (slices_IndexFunc_api_Frac_api_Frac_with_weight_all_1_of_weight_fraction_valid.l0 k 0 l = some (.inr ()) ∧ _) := h
  unfold weight_all_with_weight_fraction_valid slices_ContainsFunc_api_Frac_api_Frac_with_weight_all_1_of_weight_fraction_valid slices_IndexFunc_api_Frac_api_Frac_with_weight_all_1_of_weight_fraction_valid
  rcases h with ⟨r, h, h2⟩ | ⟨h, h2⟩
  · rw [h, h2]
    show some (!decide ((r : Int) ≥ 0)) = _
    rw [decide_eq_true (by omega)]; rfl
  · rw [h, h2]; rfl
theorem allv12 {l : List Frac} (hl : l.length ≤ 100000) {k : Nat} (hk : l.length + 10 < k) : weight_all_with_weight_Valid_1 k l = some (l.all fun f => decide (f.Num ≥ 0)) := by
  have h := all2 slices_IndexFunc_api_Frac_api_Frac_with_weight_all_1_of_weight_Valid_1.l0 (fun _ f => weight_all_1_of_weight_Valid_1 f) (fun _ _ _ => rfl) l hl 0 (fun f => decide (f.Num ≥ 0)) (fun k _ f hf => rfl) l.length 0 k (by omega) (by omega)
  rw [List.drop_zero] at h
  have h : (∃ r : Nat, slices_IndexFunc_api_Frac_api_Frac_with_weight_all_1_of_weight_Valid_1.l0 k 0 l = some (.inl (r : Int)) ∧ _) ∨ (slices_IndexFunc_api_Frac_api_Frac_with_weight_all_1_of_weight_Valid_1.l0 k 0 l = some (.inr ()) ∧ _) := h
  unfold weight_all_with_weight_Valid_1 slices_ContainsFunc_api_Frac_api_Frac_with_weight_all_1_of_weight_Valid_1 slices_IndexFunc_api_Frac_api_Frac_with_weight_all_1_of_weight_Valid_1
  rcases h with ⟨r, h, h2⟩ | ⟨h, h2⟩
  · rw [h, h2]
    show some (!decide ((r : Int) ≥ 0)) = _
    rw [decide_eq_true (by omega)]; rfl
  · rw [h, h2]; rfl
theorem allv22 {l : List Frac} (hl : l.length ≤ 100000) {k : Nat} (hk : l.length + 10 < k) : weight_all_with_weight_Valid_2 k l = some (l.all fun f => decide (f.Num > 0)) := by
  have h := all2 slices_IndexFunc_api_Frac_api_Frac_with_weight_all_1_of_weight_Valid_2.l0 (fun _ f => weight_all_1_of_weight_Valid_2 f) (fun _ _ _ => rfl) l hl 0 (fun f => decide (f.Num > 0)) (fun k _ f hf => rfl) l.length 0 k (by omega) (by omega)
  rw [List.drop_zero] at h
  have h : (∃ r : Nat, slices_IndexFunc_api_Frac_api_Frac_with_weight_all_1_of_weight_Valid_2.l0 k 0 l = some (.inl (r : Int)) ∧ _) ∨ (slices_IndexFunc_api_Frac_api_Frac_with_weight_all_1_of_weight_Valid_2.l0 k 0 l = some (.inr ()) ∧ _) := h
  unfold weight_all_with_weight_Valid_2 slices_ContainsFunc_api_Frac_api_Frac_with_weight_all_1_of_weight_Valid_2 slices_IndexFunc_api_Frac_api_Frac_with_weight_all_1_of_weight_Valid_2
  rcases h with ⟨r, h, h2⟩ | ⟨h, h2⟩
  · rw [h, h2]
    show some (!decide ((r : Int) ≥ 0)) = _
    rw [decide_eq_true (by omega)]; rfl
  · rw [h, h2]; rfl
end Gp
set_option linter.unusedVariables false
set_option linter.unusedSimpArgs false
namespace Gp
open Gw Gq
theorem prime_no {p : Nat} (hp : p ≤ 1000000) : ∀ (k d : Nat), 2 ≤ d → d ≤ 1001 → 1002 - d < k → weight_prime.l0 k (d : Int) (p : Int) = some (.inl false) → ¬ isP p
  | 0, d, h2, h3, hk, h => by omega
  | k + 1, d, h2, h3, hk, h => by
    have hdd : d * d ≤ 1001 * 1001 := Nat.mul_le_mul h3 h3
    have hw : w64 ((d : Int) * (d : Int)) = ((d * d : Nat) : Int) := by rw [← Int.natCast_mul]; exact w64_nat (by omega)
    have hwd : w64 ((d : Int) + 1) = ((d + 1 : Nat) : Int) := by rw [w64_id (by omega) (by omega)]; rfl
    have em : Int.tmod (p : Int) (d : Int) = ((p % d : Nat) : Int) := rfl
    rw [weight_prime.l0, hw, hwd, em] at h
    by_cases hle : d * d ≤ p
    · rw [if_pos (by rw [decide_eq_true_eq]; omega), if_pos (by omega)] at h
      by_cases hm : p % d = 0
      · exact fun hP => hP d h2 hle (Nat.dvd_of_mod_eq_zero hm)
      · rw [if_neg (by rw [beq_iff_eq]; omega)] at h
        have hd1 : d ≤ 1000 := by
          rcases Nat.lt_or_ge 1000 d with h5 | h5
          · exfalso
            have : 1001 * 1001 ≤ d * d := Nat.mul_le_mul h5 h5
            omega
          · exact h5
        exact prime_no hp k (d + 1) (by omega) (by omega) (by omega) h
    · rw [if_neg (by rw [decide_eq_true_eq]; omega)] at h
      cases h
theorem prime_same : ∀ (k : Nat) (d p : Int), ref06_prime.l0 k d p = weight_prime.l0 k d p
  | 0, d, p => rfl
  | k + 1, d, p => by rw [ref06_prime.l0, weight_prime.l0, prime_same]
theorem prime2 {p : Nat} (h2 : 2 ≤ p) (hp : p ≤ 1000000) {k : Nat} (hk : 2000 < k) : ∃ b, weight_prime k (p : Int) = some b ∧ ref06_prime k (p : Int) = some b ∧ (b = true ↔ isP p) := by
  unfold weight_prime ref06_prime
  rw [prime_same, if_neg (by rw [Bool.or_eq_true, decide_eq_true_eq, decide_eq_true_eq]; omega)]
  rcases prime_l0 hp k 2 (by omega) (by omega) (by omega) (fun e h5 h6 => by omega) with h | ⟨h, h3⟩
  · have hn := prime_no hp k 2 (by omega) (by omega) (by omega) h
    have h : weight_prime.l0 k 2 (p : Int) = _ := h
    exact ⟨false, by rw [h]; rfl, by rw [h]; rfl, fun h => (by cases h), fun h => absurd h hn⟩
  · have h : weight_prime.l0 k 2 (p : Int) = _ := h
    refine ⟨true, ?_, by rw [h]; rfl, fun _ => h3, fun _ => rfl⟩
    rw [h]
    show some (decide ((p : Int) ≥ 2)) = _
    rw [decide_eq_true (by omega)]
theorem index2_l0 {l : List Int} (hl : l.length ≤ 100000) (p : Int) : ∀ (d x k : Nat), x + d = l.length → d < k → (∃ r : Nat, slices_Index_int_int.l0 k x l p = some (.inl (r : Int)) ∧ p ∈ l.drop x) ∨ (slices_Index_int_int.l0 k x l p = some (.inr ()) ∧ p ∉ l.drop x)
  | 0, x, k, e, hk => by
    obtain ⟨k, rfl⟩ : ∃ m, k = m + 1 := ⟨k - 1, by omega⟩
    refine .inr ⟨by rw [slices_Index_int_int.l0, if_neg (by simp; omega)], ?_⟩
    rw [List.drop_of_length_le (by omega)]
    exact List.not_mem_nil
  | d + 1, x, k, e, hk => by
    obtain ⟨k, rfl⟩ : ∃ m, k = m + 1 := ⟨k - 1, by omega⟩
    have hx : x < l.length := by omega
    have hwx : w64 ((x : Int) + 1) = ((x + 1 : Nat) : Int) := by rw [w64_id (by omega) (by omega)]; rfl
    rw [slices_Index_int_int.l0, if_pos (by simpa using hx), if_pos (by omega), rdD_get hx, hwx, List.drop_eq_getElem_cons hx]
    by_cases he : p = l[x]
    · exact .inl ⟨x, by rw [if_pos (by simpa using he)], by rw [he]; exact List.mem_cons_self⟩
    · rw [if_neg (by simpa using he)]
      rcases index2_l0 hl p d (x + 1) k (by omega) (by omega) with ⟨r, h1, h2⟩ | ⟨h1, h2⟩
      · exact .inl ⟨r, h1, List.mem_cons_of_mem _ h2⟩
      · refine .inr ⟨h1, fun hy => ?_⟩
        rcases List.mem_cons.1 hy with h | h
        · exact he h
        · exact h2 h
theorem contains2 {l : List Int} (hl : l.length ≤ 100000) (p : Int) {k : Nat} (hk : l.length < k) : slices_Contains_int_int k l p = some (decide (p ∈ l)) := by
  have h := index2_l0 hl p l.length 0 k (by omega) (by omega)
  rw [List.drop_zero] at h
  have h : (∃ r : Nat, slices_Index_int_int.l0 k 0 l p = some (.inl (r : Int)) ∧ _) ∨ (slices_Index_int_int.l0 k 0 l p = some (.inr ()) ∧ _) := h
  unfold slices_Contains_int_int slices_Index_int_int
  rcases h with ⟨r, h, h2⟩ | ⟨h, h2⟩
  · rw [h, decide_eq_true h2]
    show some (decide ((r : Int) ≥ 0)) = _
    rw [decide_eq_true (by omega)]
  · rw [h, decide_eq_false h2]; rfl
theorem mem_cut {l : List Int} {i : Nat} (hi : i ≤ l.length) (p : Int) : p ∈ cut l 0 (i : Int) ↔ ∃ j, j < i ∧ rdD l (j : Int) 0 = p := by
  unfold cut
  rw [show ((0 : Int).toNat) = 0 by rfl, List.drop_zero, Int.toNat_natCast, Nat.sub_zero, List.mem_take_iff_getElem]
  constructor
  · rintro ⟨j, hj, rfl⟩
    exact ⟨j, by omega, rdD_get (by omega) _⟩
  · rintro ⟨j, hj, rfl⟩
    exact ⟨j, by omega, (rdD_get (by omega) _).symm⟩
theorem okI_step {w : Weights} (hl : w.Primes.length ≤ 12) (hll : w.Logs.length = w.Primes.length) {i k : Nat} (hi : i < w.Primes.length) (hk : 3000 < k) :
    (okI w i ∧ weight_Valid.l0 (k + 1) i w = weight_Valid.l0 k ((i + 1 : Nat) : Int) w) ∨ (¬ okI w i ∧ weight_Valid.l0 (k + 1) i w = some (.inl false)) := by
  have hwi : w64 ((i : Int) + 1) = ((i + 1 : Nat) : Int) := by rw [w64_id (by omega) (by omega)]; rfl
  have hL : 0 ≤ (i : Int) ∧ (i : Int) < (w.Logs.length : Int) := by rw [hll]; omega
  have hc : 0 ≤ (0 : Int) ∧ (0 : Int) ≤ (i : Int) ∧ (i : Int) ≤ (w.Primes.length : Int) := by omega
  rw [weight_Valid.l0, if_pos (by simpa using hi), if_pos (by omega), hwi]
  simp only [if_pos hL, if_pos hc]
  by_cases hr : rdD w.Primes (i : Int) 0 < 2 ∨ rdD w.Primes (i : Int) 0 > 1000000
  · right
    refine ⟨?_, by rw [if_pos (by rw [Bool.or_eq_true, decide_eq_true_eq, decide_eq_true_eq]; exact hr)]; rfl⟩
    rintro ⟨p, h1, h2, _⟩
    omega
  · rw [if_neg (by rw [Bool.or_eq_true, decide_eq_true_eq, decide_eq_true_eq]; exact hr)]
    obtain ⟨p, hp⟩ : ∃ p : Nat, rdD w.Primes (i : Int) 0 = p := ⟨(rdD w.Primes (i : Int) 0).toNat, by omega⟩
    rw [hp] at hr ⊢
    obtain ⟨b, h1, _, h2⟩ := prime2 (p := p) (by omega) (by omega) (k := k) (by omega)
    have h3 := contains2 (l := cut w.Primes 0 (i : Int)) (by rw [cut_length (by omega) (by omega) (by omega)]; omega) (p : Int) (k := k) (by rw [cut_length (by omega) (by omega) (by omega)]; omega)
    have hm := mem_cut (l := w.Primes) (i := i) (by omega) (p : Int)
    have ho : ∀ P : Prop, (okI w i → P) ↔ (isP p → (∀ j, j < i → rdD w.Primes (j : Int) 0 ≠ (p : Int)) → (-1000 ≤ lg w i ∧ lg w i ≤ 1000) → P) := fun P => by
      constructor
      · intro f a b c
        exact f ⟨p, hp, by omega, a, b, c⟩
      · rintro f ⟨q, e1, e2, e3, e4, e5⟩
        have : q = p := by omega
        subst this
        exact f e3 e4 e5
    rw [h1, Option.bind_some, h3]
    cases b
    · right
      exact ⟨(ho False).2 fun a _ _ => (by have := h2.2 a; cases this), rfl⟩
    by_cases hx : (p : Int) ∈ cut w.Primes 0 (i : Int)
    · right
      refine ⟨(ho False).2 fun _ a _ => ?_, by rw [decide_eq_true hx]; rfl⟩
      obtain ⟨j, j1, j2⟩ := hm.1 hx
      exact a j j1 j2
    rw [decide_eq_false hx]
    by_cases hg : rdD w.Logs (i : Int) 0 < -1000
    · right
      refine ⟨(ho False).2 fun _ _ a => ?_, by rw [decide_eq_true hg]; rfl⟩
      have : -1000 ≤ rdD w.Logs (i : Int) 0 := a.1
      omega
    by_cases hg2 : rdD w.Logs (i : Int) 0 > 1000
    · right
      refine ⟨(ho False).2 fun _ _ a => ?_, by rw [decide_eq_false hg, decide_eq_true hg2]; rfl⟩
      have : rdD w.Logs (i : Int) 0 ≤ 1000 := a.2
      omega
    left
    rw [decide_eq_false hg, decide_eq_false hg2]
    refine ⟨⟨p, hp, by omega, h2.1 rfl, fun j hj he => hx (hm.2 ⟨j, hj, he⟩), by show -1000 ≤ rdD w.Logs (i : Int) 0 ∧ rdD w.Logs (i : Int) 0 ≤ 1000; omega⟩, rfl⟩
theorem ref_l1 {w : Weights} (hl : w.Primes.length ≤ 12) {i : Nat} (hi : i < w.Primes.length) : ∀ (d x k : Nat), x + d = i → d < k → (ref06_Valid.l1 k x w i = some (.inl false) ∧ ∃ j, x ≤ j ∧ j < i ∧ rdD w.Primes (j : Int) 0 = rdD w.Primes (i : Int) 0) ∨ (ref06_Valid.l1 k x w i = some (.inr ()) ∧ ∀ j, x ≤ j → j < i → rdD w.Primes (j : Int) 0 ≠ rdD w.Primes (i : Int) 0)
  | 0, x, k, e, hk => by
    obtain ⟨k, rfl⟩ : ∃ m, k = m + 1 := ⟨k - 1, by omega⟩
    exact .inr ⟨by rw [ref06_Valid.l1, if_neg (by simp; omega)], fun j h1 h2 => by omega⟩
  | d + 1, x, k, e, hk => by
    obtain ⟨k, rfl⟩ : ∃ m, k = m + 1 := ⟨k - 1, by omega⟩
    have hwx : w64 ((x : Int) + 1) = ((x + 1 : Nat) : Int) := by rw [w64_id (by omega) (by omega)]; rfl
    rw [ref06_Valid.l1, if_pos (by simp; omega), if_pos (by omega), hwx]
    by_cases he : rdD w.Primes (x : Int) 0 = rdD w.Primes (i : Int) 0
    · exact .inl ⟨by rw [if_pos (by simpa using he)], x, by omega, by omega, he⟩
    · rw [if_neg (by simpa using he)]
      rcases ref_l1 hl hi d (x + 1) k (by omega) (by omega) with ⟨h1, j, j1, j2, j3⟩ | ⟨h1, h2⟩
      · exact .inl ⟨h1, j, by omega, j2, j3⟩
      · refine .inr ⟨h1, fun j j1 j2 => ?_⟩
        by_cases hj : j = x
        · subst hj; exact he
        · exact h2 j (by omega) j2
theorem okI_ref {w : Weights} (hl : w.Primes.length ≤ 12) (hll : w.Logs.length = w.Primes.length) {i k : Nat} (hi : i < w.Primes.length) (hk : 3000 < k) :
    (okI w i ∧ ref06_Valid.l0 (k + 1) i w = ref06_Valid.l0 k ((i + 1 : Nat) : Int) w) ∨ (¬ okI w i ∧ ref06_Valid.l0 (k + 1) i w = some (.inl false)) := by
  have hwi : w64 ((i : Int) + 1) = ((i + 1 : Nat) : Int) := by rw [w64_id (by omega) (by omega)]; rfl
  have hL : 0 ≤ (i : Int) ∧ (i : Int) < (w.Logs.length : Int) := by rw [hll]; omega
  rw [ref06_Valid.l0, if_pos (by simpa using hi), if_pos (by omega), hwi]
  simp only [if_pos hL]
  by_cases hr : rdD w.Primes (i : Int) 0 < 2 ∨ rdD w.Primes (i : Int) 0 > 1000000
  · right
    refine ⟨?_, ?_⟩
    · rintro ⟨p, h1, h2, _⟩
      omega
    · have : ref06_prime k (rdD w.Primes (i : Int) 0) = some false := by
        unfold ref06_prime
        rw [if_pos (by rw [Bool.or_eq_true, decide_eq_true_eq, decide_eq_true_eq]; exact hr)]
      rw [this]; rfl
  · obtain ⟨p, hp⟩ : ∃ p : Nat, rdD w.Primes (i : Int) 0 = p := ⟨(rdD w.Primes (i : Int) 0).toNat, by omega⟩
    have l1 := ref_l1 hl hi i 0 k (by omega) (by omega)
    have l1 : (ref06_Valid.l1 k 0 w i = some (.inl false) ∧ _) ∨ (ref06_Valid.l1 k 0 w i = some (.inr ()) ∧ _) := l1
    rw [hp] at hr l1 ⊢
    obtain ⟨b, _, h1, h2⟩ := prime2 (p := p) (by omega) (by omega) (k := k) (by omega)
    have ho : ∀ P : Prop, (okI w i → P) ↔ (isP p → (∀ j, j < i → rdD w.Primes (j : Int) 0 ≠ (p : Int)) → (-1000 ≤ lg w i ∧ lg w i ≤ 1000) → P) := fun P => by
      constructor
      · intro f a b c
        exact f ⟨p, hp, by omega, a, b, c⟩
      · rintro f ⟨q, e1, e2, e3, e4, e5⟩
        have : q = p := by omega
        subst this
        exact f e3 e4 e5
    rw [h1, Option.bind_some]
    cases b
    · right
      exact ⟨(ho False).2 fun a _ _ => (by have := h2.2 a; cases this), rfl⟩
    by_cases hg : rdD w.Logs (i : Int) 0 < -1000
    · right
      refine ⟨(ho False).2 fun _ _ a => ?_, by rw [decide_eq_true hg]; rfl⟩
      have : -1000 ≤ rdD w.Logs (i : Int) 0 := a.1
      omega
    by_cases hg2 : rdD w.Logs (i : Int) 0 > 1000
    · right
      refine ⟨(ho False).2 fun _ _ a => ?_, by rw [decide_eq_false hg, decide_eq_true hg2]; rfl⟩
      have : rdD w.Logs (i : Int) 0 ≤ 1000 := a.2
      omega
    rw [decide_eq_false hg, decide_eq_false hg2]
    rcases l1 with ⟨l1, j, _, j1, j2⟩ | ⟨l1, l2⟩
    · right
      refine ⟨(ho False).2 fun _ a _ => a j j1 j2, ?_⟩
      rw [if_neg (by decide), Option.bind_some, if_neg (by decide), Option.bind_some, if_neg (by decide), l1]; rfl
    · left
      refine ⟨⟨p, hp, by omega, h2.1 rfl, fun j hj => l2 j (by omega) hj, by show -1000 ≤ rdD w.Logs (i : Int) 0 ∧ rdD w.Logs (i : Int) 0 ≤ 1000; omega⟩, ?_⟩
      rw [if_neg (by decide), Option.bind_some, if_neg (by decide), Option.bind_some, if_neg (by decide), l1]; rfl
theorem val2_l0 {w : Weights} (hl : w.Primes.length ≤ 12) (hll : w.Logs.length = w.Primes.length) : ∀ (d i k : Nat), i + d = w.Primes.length → d + 3000 < k →
    (weight_Valid.l0 k i w = some (.inl false) ∧ ref06_Valid.l0 k i w = some (.inl false) ∧ ¬ ∀ j, i ≤ j → j < w.Primes.length → okI w j) ∨ (weight_Valid.l0 k i w = some (.inr ()) ∧ ref06_Valid.l0 k i w = some (.inr ()) ∧ ∀ j, i ≤ j → j < w.Primes.length → okI w j)
  | 0, i, k, e, hk => by
    obtain ⟨k, rfl⟩ : ∃ m, k = m + 1 := ⟨k - 1, by omega⟩
    exact .inr ⟨by rw [weight_Valid.l0, if_neg (by simp; omega)], by rw [ref06_Valid.l0, if_neg (by simp; omega)], fun j h1 h2 => by omega⟩
  | d + 1, i, k, e, hk => by
    obtain ⟨k, rfl⟩ : ∃ m, k = m + 1 := ⟨k - 1, by omega⟩
    rcases okI_step hl hll (i := i) (k := k) (by omega) (by omega) with ⟨o, h1⟩ | ⟨o, h1⟩
    · rcases okI_ref hl hll (i := i) (k := k) (by omega) (by omega) with ⟨_, h2⟩ | ⟨o2, _⟩
      · rw [h1, h2]
        rcases val2_l0 hl hll d (i + 1) k (by omega) (by omega) with ⟨a, b, c⟩ | ⟨a, b, c⟩
        · exact .inl ⟨a, b, fun f => c fun j j1 j2 => f j (by omega) j2⟩
        · refine .inr ⟨a, b, fun j j1 j2 => ?_⟩
          by_cases ej : j = i
          · subst ej; exact o
          · exact c j (by omega) j2
      · exact absurd o o2
    · rcases okI_ref hl hll (i := i) (k := k) (by omega) (by omega) with ⟨o2, _⟩ | ⟨_, h2⟩
      · exact absurd o2 o
      · exact .inl ⟨h1, h2, fun f => o (f i (by omega) (by omega))⟩
end Gp
set_option linter.unusedVariables false
set_option linter.unusedSimpArgs false
namespace Gp
open Gw Gq
structure ValidW (s : List Tile) (w : Weights) : Prop where
  vt : validT s = true
  vl : (w.Values.length : Int) = cV s
  cl : (w.Carries.length : Int) = cH s
  fl : w.Factors.length = s.length
  pl : w.Primes.length ≤ 12
  ll : w.Logs.length = w.Primes.length
  okv : ∀ f ∈ w.Values, okF f ∧ 0 ≤ f.Num
  okc : ∀ f ∈ w.Carries, okF f
  okf : ∀ f ∈ w.Factors, okF f ∧ 0 < f.Num
  pp : ∀ j, j < w.Primes.length → okI w j
theorem cV_bd {s : List Tile} (hv : validT s = true) : (0 ≤ cV s ∧ cV s ≤ 1000) ∧ 0 ≤ cH s ∧ cH s ≤ 1000 := by
  have hc := ((vT_iff s).1 hv).2.2
  have h1 := (foldV_ge s 0).1
  have h2 := (foldH_ge s 0).1
  have h3 := foldV_le (B := 1000) s 0 (fun t ht => by have := hc t ht; unfold colB inCol at this; simp only [Bool.and_eq_true, decide_eq_true_eq] at this; omega) (by omega)
  have h4 := foldH_le (B := 1000) s 0 (fun t ht => by have := hc t ht; unfold colB inCol at this; simp only [Bool.and_eq_true, decide_eq_true_eq] at this; omega) (by omega)
  exact ⟨⟨h1, h3⟩, h2, h4⟩
theorem ValidW.all {s : List Tile} {w : Weights} (V : ValidW s w) : OKW s w ∧ OKP w ∧ coP w := by
  have hl : s.length ≤ 1000 := ((vT_iff s).1 V.vt).1
  have hcol := vT_col V.vt
  have hV := (foldV_ge s 0).2
  have hH := (foldH_ge s 0).2
  have hm : ∀ i, i < s.length → tw s i ∈ s := fun i hi => by rw [tw_get hi]; exact List.getElem_mem hi
  have e1 : s.foldl mxV 0 = (w.Values.length : Int) := V.vl.symm
  have e2 : s.foldl mxH 0 = (w.Carries.length : Int) := V.cl.symm
  refine ⟨⟨hl, fun i hi => ?_, fun i hi => ?_, fun i hi => ?_, fun i hi => ?_, V.fl, V.okv, V.okc, V.okf⟩, okI_all V.pl V.ll V.pp⟩
  · have := hV _ (hm i hi); have := hcol i hi; omega
  · have := hV _ (hm i hi); have := hcol i hi; omega
  · have := hH _ (hm i hi); have := hcol i hi; omega
  · have := hH _ (hm i hi); have := hcol i hi; omega
theorem valW {s : List Tile} {w : Weights} (hs : s.length ≤ 9223372036854775807) {k : Nat} (hk : 100000 < k) : ∃ b, weight_Valid k s w = some b ∧ (b = true ↔ ValidW s w) := by
  unfold weight_Valid
  rw [tile_valid s (by omega) hs, Option.bind_some]
  cases hv : validT s
  · exact ⟨false, rfl, fun h => (by cases h), fun h => by rw [h.vt] at hv; cases hv⟩
  rw [if_neg (by decide)]
  have hl : s.length ≤ 1000 := ((vT_iff s).1 hv).1
  have hb := cV_bd hv
  rw [(need2_eq hv (k := k) (by omega)).1, Option.bind_some]
  simp only
  by_cases hlen : (((((w.Values.length : Int) != cV s) || ((w.Carries.length : Int) != cH s)) || ((w.Factors.length : Int) != (s.length : Int))) || (decide ((w.Primes.length : Int) > 12)) || ((w.Logs.length : Int) != (w.Primes.length : Int))) = true
  · refine ⟨false, by rw [if_pos hlen], fun h => (by cases h), fun h => ?_⟩
    simp only [Bool.or_eq_true, bne_iff_ne, ne_eq, decide_eq_true_eq] at hlen
    have := h.vl; have := h.cl; have := h.fl; have := h.pl; have := h.ll
    omega
  rw [if_neg hlen]
  simp only [Bool.or_eq_true, bne_iff_ne, ne_eq, decide_eq_true_eq, not_or, Decidable.not_not] at hlen
  obtain ⟨⟨⟨⟨l1, l2⟩, l3⟩, l4⟩, l5⟩ := hlen
  rw [allfv2 (l := w.Values) (by omega) (k := k) (by omega), allfv2 (l := w.Carries) (by omega) (k := k) (by omega), allfv2 (l := w.Factors) (by omega) (k := k) (by omega), allv12 (l := w.Values) (by omega) (k := k) (by omega), allv22 (l := w.Factors) (by omega) (k := k) (by omega)]
  cases h1 : w.Values.all okFb
  · refine ⟨false, rfl, fun h => (by cases h), fun V => ?_⟩
    have : w.Values.all okFb = true := List.all_eq_true.2 fun f hf => (okFb_iff f).2 (V.okv f hf).1
    rw [this] at h1; cases h1
  cases h2 : w.Carries.all okFb
  · refine ⟨false, rfl, fun h => (by cases h), fun V => ?_⟩
    have : w.Carries.all okFb = true := List.all_eq_true.2 fun f hf => (okFb_iff f).2 (V.okc f hf)
    rw [this] at h2; cases h2
  cases h3 : w.Factors.all okFb
  · refine ⟨false, rfl, fun h => (by cases h), fun V => ?_⟩
    have : w.Factors.all okFb = true := List.all_eq_true.2 fun f hf => (okFb_iff f).2 (V.okf f hf).1
    rw [this] at h3; cases h3
  cases h4 : w.Values.all fun f => decide (f.Num ≥ 0)
  · refine ⟨false, rfl, fun h => (by cases h), fun V => ?_⟩
    have : (w.Values.all fun f => decide (f.Num ≥ 0)) = true := List.all_eq_true.2 fun f hf => decide_eq_true (V.okv f hf).2
    rw [this] at h4; cases h4
  cases h5 : w.Factors.all fun f => decide (f.Num > 0)
  · refine ⟨false, rfl, fun h => (by cases h), fun V => ?_⟩
    have : (w.Factors.all fun f => decide (f.Num > 0)) = true := List.all_eq_true.2 fun f hf => decide_eq_true (V.okf f hf).2
    rw [this] at h5; cases h5
  have l0 := val2_l0 (w := w) (by omega) (by omega) w.Primes.length 0 k (by omega) (by omega)
  have l0 : (weight_Valid.l0 k 0 w = some (.inl false) ∧ _ ∧ _) ∨ (weight_Valid.l0 k 0 w = some (.inr ()) ∧ _ ∧ _) := l0
  show ∃ b, ((weight_Valid.l0 k 0 w).bind _) = some b ∧ _
  rcases l0 with ⟨h, _, h6⟩ | ⟨h, _, h6⟩
  · rw [h]; exact ⟨false, rfl, fun h => (by cases h), fun V => absurd (fun j _ hj => V.pp j hj) h6⟩
  · rw [h]
    rw [List.all_eq_true] at h1 h2 h3 h4 h5
    exact ⟨true, rfl, fun _ => ⟨hv, l1, l2, by omega, by omega, by omega, fun f hf => ⟨(okFb_iff f).1 (h1 f hf), of_decide_eq_true (h4 f hf)⟩, fun f hf => (okFb_iff f).1 (h2 f hf), fun f hf => ⟨(okFb_iff f).1 (h3 f hf), of_decide_eq_true (h5 f hf)⟩, fun j hj => h6 j (by omega) hj⟩, fun _ => rfl⟩
end Gp
set_option linter.unusedVariables false
set_option linter.unusedSimpArgs false
namespace Gp
open Gw Gq
theorem divo_uniq {p : Nat} (hp : 2 ≤ p) : ∀ {a b n x y : Nat}, DivO p n x a → DivO p n y b → x = y ∧ a = b := by
  have key : ∀ a b x y : Nat, x * p ^ a = y * p ^ b → ¬ p ∣ x → ¬ p ∣ y → x = y ∧ a = b := by
    intro a
    induction a with
    | zero =>
      intro b x y h hx hy
      cases b with
      | zero => exact ⟨by simpa using h, rfl⟩
      | succ b =>
        exfalso
        apply hx
        rw [Nat.pow_zero, Nat.mul_one] at h
        exact ⟨y * p ^ b, by rw [h, Nat.pow_succ, Nat.mul_comm p, Nat.mul_assoc]⟩
    | succ a ih =>
      intro b x y h hx hy
      cases b with
      | zero =>
        exfalso
        apply hy
        rw [Nat.pow_zero, Nat.mul_one] at h
        exact ⟨x * p ^ a, by rw [← h, Nat.pow_succ, Nat.mul_comm p, Nat.mul_assoc]⟩
      | succ b =>
        have : x * p ^ a = y * p ^ b := by
          rw [Nat.pow_succ, Nat.pow_succ, ← Nat.mul_assoc, ← Nat.mul_assoc] at h
          exact Nat.mul_right_cancel (by omega) h
        obtain ⟨h1, h2⟩ := ih b x y this hx hy
        exact ⟨h1, by omega⟩
  intro a b n x y h1 h2
  exact key a b x y (h1.eq.symm.trans h2.eq) h1.no h2.no
inductive GrowR (w : Weights) : Nat → Nat → Nat → Int → Nat → Nat → Int → Prop
  | nil {i n d sum} (h : i = w.Primes.length) : GrowR w i n d sum n d sum
  | cons {i n d sum n1 d1 a b n2 d2 s2} (hi : i < w.Primes.length) (h1 : DivO (pr w i) n n1 a) (h2 : DivO (pr w i) d d1 b) (h : GrowR w (i + 1) n1 d1 (sum + (a : Int) * lg w i - (b : Int) * lg w i) n2 d2 s2) : GrowR w i n d sum n2 d2 s2
theorem growR_uniq {w : Weights} (ok : OKP w) {i n d : Nat} {sum : Int} {n1 d1 n2 d2 : Nat} {s1 s2 : Int} (h1 : GrowR w i n d sum n1 d1 s1) : GrowR w i n d sum n2 d2 s2 → n1 = n2 ∧ d1 = d2 ∧ s1 = s2 := by
  induction h1 with
  | nil h =>
    intro h2
    cases h2 with
    | nil _ => exact ⟨rfl, rfl, rfl⟩
    | cons hi _ _ _ => omega
  | cons hi g1 g2 _ ih =>
    intro h2
    cases h2 with
    | nil h => omega
    | cons _ g3 g4 g =>
      obtain ⟨e1, e2⟩ := divo_uniq (ok.p _ hi).2.1 g1 g3
      obtain ⟨e3, e4⟩ := divo_uniq (ok.p _ hi).2.1 g2 g4
      subst e1 e2 e3 e4
      exact ih g
theorem grow2_l0 {w : Weights} (ok : OKP w) : ∀ (r i k n d : Nat) (sum : Int), i + r = w.Primes.length → r + 1000010 < k → (1 ≤ n ∧ n ≤ 1000000) → (1 ≤ d ∧ d ≤ 1000000) → (-2000000000 * (i : Int) ≤ sum ∧ sum ≤ 2000000000 * (i : Int)) →
    ∃ (n' d' : Nat) (s' : Int), weight_grows.l0 k (n : Int) (d : Int) sum i w = some ((n' : Int), (d' : Int), s') ∧ GrowR w i n d sum n' d' s'
  | 0, i, k, n, d, sum, e, hk, hn, hd, hs => by
    obtain ⟨k, rfl⟩ : ∃ m, k = m + 1 := ⟨k - 1, by omega⟩
    refine ⟨n, d, sum, ?_, .nil (by omega)⟩
    rw [weight_grows.l0, if_neg (by simp; omega)]
  | r + 1, i, k, n, d, sum, e, hk, hn, hd, hs => by
    obtain ⟨k, rfl⟩ : ∃ m, k = m + 1 := ⟨k - 1, by omega⟩
    have hlen := ok.len
    have hi : i < w.Primes.length := by omega
    have hwi : w64 ((i : Int) + 1) = ((i + 1 : Nat) : Int) := by rw [w64_id (by omega) (by omega)]; rfl
    obtain ⟨hp, h2, h3⟩ := ok.p i hi
    have hL := ok.l i hi
    obtain ⟨n1, a, e1, dv1⟩ := grow_div hp h2 (by rw [ok.ll]; exact hi) rfl hL k n sum hn.1 hn.2 (by omega) (by omega) (by omega)
    have e1 : weight_grows.l1 k (n : Int) sum w i = some ((n1 : Int), sum + (a : Int) * lg w i) := e1
    obtain ⟨f1, f2, f3⟩ := divo_lt h2 hn.1 dv1
    have b1 := al_bd f3 hn.2 hL
    obtain ⟨d1, b, e2, dv2⟩ := shrink_div hp h2 (by rw [ok.ll]; exact hi) rfl hL k d (sum + (a : Int) * lg w i) hd.1 hd.2 (by omega) (by omega) (by omega)
    have e2 : weight_grows.l2 k (d : Int) (sum + (a : Int) * lg w i) w i = some ((d1 : Int), sum + (a : Int) * lg w i - (b : Int) * lg w i) := e2
    obtain ⟨g1, g2, g3⟩ := divo_lt h2 hd.1 dv2
    have b2 := al_bd g3 hd.2 hL
    obtain ⟨n', d', s', h4, h5⟩ := grow2_l0 ok r (i + 1) k n1 d1 (sum + (a : Int) * lg w i - (b : Int) * lg w i) (by omega) (by omega) ⟨f1, by omega⟩ ⟨g1, by omega⟩ (by omega)
    refine ⟨n', d', s', ?_, .cons hi dv1 dv2 h5⟩
    rw [weight_grows.l0, if_pos (by simpa using hi), if_pos (by omega), e1, Option.bind_some]
    simp only
    rw [e2, Option.bind_some]
    simp only
    rw [hwi, h4]
def growsP (w : Weights) (f : Frac) : Prop := ∃ s : Int, GrowR w 0 (f.Num.toNat / Nat.gcd f.Num.toNat f.Den.toNat) (f.Den.toNat / Nat.gcd f.Num.toNat f.Den.toNat) 0 1 1 s ∧ 0 < s
theorem low_bd {n d : Nat} (hn : 1 ≤ n ∧ n ≤ 1000000) (hd : 1 ≤ d ∧ d ≤ 1000000) : (1 ≤ n / Nat.gcd n d ∧ n / Nat.gcd n d ≤ 1000000) ∧ 1 ≤ d / Nat.gcd n d ∧ d / Nat.gcd n d ≤ 1000000 := by
  have hg : 0 < Nat.gcd n d := Nat.gcd_pos_of_pos_left _ (by omega)
  exact ⟨⟨(Nat.le_div_iff_mul_le hg).2 (by rw [Nat.one_mul]; exact Nat.gcd_le_left _ (by omega)), Nat.le_trans (Nat.div_le_self _ _) hn.2⟩, (Nat.le_div_iff_mul_le hg).2 (by rw [Nat.one_mul]; exact Nat.gcd_le_right _ (by omega)), Nat.le_trans (Nat.div_le_self _ _) hd.2⟩
theorem grows2_eq {w : Weights} (ok : OKP w) {f : Frac} (hf : okF f) (h0 : 0 < f.Num) {k : Nat} (hk : 1001000 < k) : ∃ b, weight_grows k f w = some b ∧ (b = true ↔ growsP w f) := by
  obtain ⟨n, hn⟩ : ∃ n : Nat, f.Num = n := ⟨f.Num.toNat, by omega⟩
  obtain ⟨d, hd⟩ : ∃ d : Nat, f.Den = d := ⟨f.Den.toNat, by have := hf.2.1; omega⟩
  have n1 : 1 ≤ n ∧ n ≤ 1000000 := by have := hf.1; omega
  have d1 : 1 ≤ d ∧ d ≤ 1000000 := by have := hf.2; omega
  have hlen := ok.len
  have hl := lowest_eq n1 d1 (k := k) (by omega)
  obtain ⟨b1, b2⟩ := low_bd n1 d1
  obtain ⟨n', d', s', e1, e2⟩ := grow2_l0 ok w.Primes.length 0 k (n / Nat.gcd n d) (d / Nat.gcd n d) 0 (by omega) (by omega) b1 b2 (by omega)
  have e1 : weight_grows.l0 k ((n / Nat.gcd n d : Nat) : Int) ((d / Nat.gcd n d : Nat) : Int) 0 0 w = some ((n' : Int), (d' : Int), s') := e1
  unfold weight_grows growsP
  rw [hn, hd, hl, Option.bind_some, Int.toNat_natCast, Int.toNat_natCast]
  simp only
  rw [e1, Option.bind_some]
  refine ⟨_, rfl, ?_⟩
  simp only [Bool.and_eq_true, beq_iff_eq, decide_eq_true_eq]
  constructor
  · rintro ⟨⟨h1, h2⟩, h3⟩
    have q1 : n' = 1 := by omega
    have q2 : d' = 1 := by omega
    subst q1 q2
    exact ⟨s', e2, h3⟩
  · rintro ⟨s, h1, h2⟩
    obtain ⟨q1, q2, q3⟩ := growR_uniq ok e2 h1
    omega
end Gp
set_option linter.unusedVariables false
set_option linter.unusedSimpArgs false
namespace Gp
open Gw Gq
noncomputable def gB (w : Weights) (f : Frac) : Bool := @decide (growsP w f) (Classical.propDecidable _)
theorem gB_iff (w : Weights) (f : Frac) : gB w f = true ↔ growsP w f := by
  unfold gB; exact @decide_eq_true_iff _ (Classical.propDecidable _)
theorem ck42_eq {s : List Tile} {w : Weights} (ok : OKW s w) (op : OKP w) {k : Nat} (hk : 1010000 < k) : weight_Check_4 k w = some (w.Factors.all (gB w)) := by
  have hl := ok.len
  have hfl := ok.fl
  have h := all2 (fun k x l => slices_IndexFunc_api_Frac_api_Frac_with_weight_all_1_of_weight_Check_4_1.l0 k x l w) (fun k f => weight_all_1_of_weight_Check_4_1 k f w) (fun _ _ _ => rfl) w.Factors (by omega) 1001000 (gB w) (fun k hk f hf => by
    obtain ⟨b, h1, h2⟩ := grows2_eq op (ok.okf f hf).1 (ok.okf f hf).2 (k := k) hk
    have hb : gB w f = b := by
      have := gB_iff w f
      cases b
      · cases hg : gB w f
        · rfl
        · rw [hg] at this
          exact absurd (h2.2 (this.1 rfl)) (by decide)
      · exact this.2 (h2.1 rfl)
    rw [hb]
    show ((weight_grows k (Frac.mk f.Num f.Den) w).bind _ |>.bind _) = _
    have h1 : weight_grows k (Frac.mk f.Num f.Den) w = some b := h1
    rw [h1]; rfl) w.Factors.length 0 k (by omega) (by omega)
  rw [List.drop_zero] at h
  have h : (∃ r : Nat, slices_IndexFunc_api_Frac_api_Frac_with_weight_all_1_of_weight_Check_4_1.l0 k 0 w.Factors w = some (.inl (r : Int)) ∧ _) ∨ (slices_IndexFunc_api_Frac_api_Frac_with_weight_all_1_of_weight_Check_4_1.l0 k 0 w.Factors w = some (.inr ()) ∧ _) := h
  unfold weight_Check_4 weight_all_with_weight_Check_4_1 slices_ContainsFunc_api_Frac_api_Frac_with_weight_all_1_of_weight_Check_4_1 slices_IndexFunc_api_Frac_api_Frac_with_weight_all_1_of_weight_Check_4_1
  rcases h with ⟨r, h, h2⟩ | ⟨h, h2⟩
  · rw [h, h2]
    show some (!decide ((r : Int) ≥ 0)) = _
    rw [decide_eq_true (by omega)]; rfl
  · rw [h, h2]; rfl
structure CheckP (s : List Tile) (w : Weights) : Prop where
  bal : (List.range s.length).all (balT s w) = true
  pairs : pairsF s w
  cyc : noCyc (zeroT s w)
  fact : ∀ f ∈ w.Factors, growsP w f
theorem chk2 {s : List Tile} {w : Weights} (hs : s.length ≤ 9223372036854775807) (V : ValidW s w) {k : Nat} (hk : 4294990000 < k) : ∃ b, weight_Check k s w = some (b, 0) ∧ (b = true ↔ CheckP s w) := by
  obtain ⟨k, rfl⟩ : ∃ k', k = k' + 5 := ⟨k - 5, by omega⟩
  obtain ⟨v, h1, h2⟩ := valW (w := w) hs (k := k + 5) (by omega)
  obtain ⟨ok, op, co⟩ := V.all
  unfold weight_Check
  rw [h1, Option.bind_some, h2.2 V, if_neg (by decide)]
  have w1 : w64 ((0 : Int) + 1) = 1 := by decide
  have w2 : w64 ((1 : Int) + 1) = 2 := by decide
  have w3 : w64 ((2 : Int) + 1) = 3 := by decide
  have w4 : w64 ((3 : Int) + 1) = 4 := by decide
  have c1 := ck1_eq ok (k := k + 4) (by omega)
  obtain ⟨b2, c2, d2⟩ := ck2_eq ok (k := k + 3) (by omega)
  obtain ⟨b3, c3, d3⟩ := ck3_eq ok (k := k + 2) (by omega)
  have c4 := ck42_eq ok op (k := k + 1) (by omega)
  have r0 : weight_Check.l0 (k + 5) 0 s w = (weight_Check_1 (k + 4) s w).bind fun t => if (!t) = true then (some (.inl (false, 0))) else (weight_Check.l0 (k + 4) (w64 (0 + 1)) s w) := rfl
  have r1 : weight_Check.l0 (k + 4) 1 s w = (weight_Check_2 (k + 3) s w).bind fun t => if (!t) = true then (some (.inl (false, 0))) else (weight_Check.l0 (k + 3) (w64 (1 + 1)) s w) := rfl
  have r2 : weight_Check.l0 (k + 3) 2 s w = (weight_Check_3 (k + 2) s w).bind fun t => if (!t) = true then (some (.inl (false, 0))) else (weight_Check.l0 (k + 2) (w64 (2 + 1)) s w) := rfl
  have r3 : weight_Check.l0 (k + 2) 3 s w = (weight_Check_4 (k + 1) w).bind fun t => if (!t) = true then (some (.inl (false, 0))) else (weight_Check.l0 (k + 1) (w64 (3 + 1)) s w) := rfl
  have r4 : weight_Check.l0 (k + 1) 4 s w = some (.inr ()) := rfl
  rw [r0, c1, Option.bind_some, w1]
  cases hb1 : (List.range s.length).all (balT s w)
  · exact ⟨false, rfl, fun h => (by cases h), fun P => by rw [P.bal] at hb1; cases hb1⟩
  rw [if_neg (by decide), r1, c2, Option.bind_some, w2]
  cases b2
  · exact ⟨false, rfl, fun h => (by cases h), fun P => d2.2 P.pairs⟩
  rw [if_neg (by decide), r2, c3, Option.bind_some, w3]
  cases b3
  · exact ⟨false, rfl, fun h => (by cases h), fun P => d3.2 P.cyc⟩
  rw [if_neg (by decide), r3, c4, Option.bind_some, w4]
  cases hb4 : w.Factors.all (gB w)
  · refine ⟨false, rfl, fun h => (by cases h), fun P => ?_⟩
    have : w.Factors.all (gB w) = true := List.all_eq_true.2 fun f hf => (gB_iff w f).2 (P.fact f hf)
    rw [this] at hb4; cases hb4
  rw [if_neg (by decide), r4]
  rw [List.all_eq_true] at hb4
  exact ⟨true, rfl, fun _ => ⟨hb1, d2.1 rfl, d3.1 rfl, fun f hf => (gB_iff w f).1 (hb4 f hf)⟩, fun _ => rfl⟩
theorem chk2_no {s : List Tile} {w : Weights} (hs : s.length ≤ 9223372036854775807) (V : ¬ ValidW s w) {k : Nat} (hk : 4294990000 < k) : weight_Check k s w = some (false, 1) := by
  obtain ⟨v, h1, h2⟩ := valW (w := w) hs (k := k) (by omega)
  unfold weight_Check
  rw [h1, Option.bind_some]
  cases v
  · rfl
  · exact absurd (h2.1 rfl) V
end Gp
set_option linter.unusedVariables false
set_option linter.unusedSimpArgs false
namespace Gp
open Gw Gq
end Gp
set_option linter.unusedVariables false
set_option linter.unusedSimpArgs false
namespace Gp
open Gw Gq
/-! digits -/
end Gp
set_option linter.unusedVariables false
set_option linter.unusedSimpArgs false
namespace Gp
open Gw Gq
theorem gcdR_l0 : ∀ (k a b : Nat), b < k → ref06_gcd.l0 k (a : Int) (b : Int) = some ((Nat.gcd a b : Nat) : Int)
  | 0, a, b, h => by omega
  | k + 1, a, b, h => by
    by_cases hb : b = 0
    · subst hb
      rw [ref06_gcd.l0, if_neg (by decide), Nat.gcd_zero_right]
    · have hm : Int.tmod (a : Int) (b : Int) = ((a % b : Nat) : Int) := rfl
      have hlt : a % b < b := Nat.mod_lt _ (by omega)
      rw [ref06_gcd.l0, if_pos (by rw [decide_eq_true_eq]; omega), if_pos (by omega), hm, gcdR_l0 k b (a % b) (by omega), Nat.gcd_comm a b, Nat.gcd_rec b a, Nat.gcd_comm]
theorem lowestR_eq {a b k : Nat} (ha : a ≤ 1000000000000000000) (hb : 1 ≤ b ∧ b ≤ 1000000) (hk : 1000001 < k) : ref06_Lowest k (a : Int) (b : Int) = some ⟨((a / Nat.gcd a b : Nat) : Int), ((b / Nat.gcd a b : Nat) : Int)⟩ := by
  have hg : 0 < Nat.gcd a b := Nat.gcd_pos_of_pos_right _ (by omega)
  unfold ref06_Lowest ref06_gcd
  rw [gcdR_l0 k a b (by omega), Option.bind_some, Option.bind_some, if_pos (by omega)]
  have e1 : Int.tdiv (a : Int) ((Nat.gcd a b : Nat) : Int) = ((a / Nat.gcd a b : Nat) : Int) := rfl
  have e2 : Int.tdiv (b : Int) ((Nat.gcd a b : Nat) : Int) = ((b / Nat.gcd a b : Nat) : Int) := rfl
  have h1 := Nat.div_le_self a (Nat.gcd a b)
  have h2 := Nat.div_le_self b (Nat.gcd a b)
  rw [e1, e2]
  generalize a / Nat.gcd a b = x at h1 ⊢
  generalize b / Nat.gcd a b = y at h2 ⊢
  rw [w64_id (by omega) (by omega), w64_id (by omega) (by omega)]
end Gp
set_option linter.unusedVariables false
set_option linter.unusedSimpArgs false
namespace Gp
open Gw Gq
/-! the part that stays -/
end Gp
set_option linter.unusedVariables false
set_option linter.unusedSimpArgs false
namespace Gp
open Gw Gq
end Gp
set_option linter.unusedVariables false
set_option linter.unusedSimpArgs false
namespace Gp
open Gw Gq
/-! lowest terms -/
theorem w64_dv {a b : Nat} (h : a ≤ 1000000000000000000) : w64 ((a / b : Nat) : Int) = ((a / b : Nat) : Int) := by
  have h1 := Nat.div_le_self a b
  generalize a / b = x at h1 ⊢
  exact w64_id (by omega) (by omega)
theorem low0_eq {a b k : Nat} (ha : a ≤ 1000000000000000000) (hb : 1 ≤ b ∧ b ≤ 1000000) (hk : 1000001 < k) : weight_fraction_lowest k ⟨(a : Int), (b : Int)⟩ = some ⟨((a / Nat.gcd a b : Nat) : Int), ((b / Nat.gcd a b : Nat) : Int)⟩ := by
  have hg : 0 < Nat.gcd a b := Nat.gcd_pos_of_pos_right _ (by omega)
  unfold weight_fraction_lowest
  simp only
  have hm : maxI (a : Int) (w64 (0 - (a : Int))) = (a : Int) := by
    rw [w64_id (by omega) (by omega)]
    unfold maxI; split <;> omega
  have h1 : a / Nat.gcd a b ≤ a := Nat.div_le_self _ _
  have h2 : b / Nat.gcd a b ≤ b := Nat.div_le_self _ _
  rw [hm, gcd_eq (by omega), Option.bind_some, if_pos (by omega)]
  have e1 : Int.tdiv (a : Int) ((Nat.gcd a b : Nat) : Int) = ((a / Nat.gcd a b : Nat) : Int) := rfl
  have e2 : Int.tdiv (b : Int) ((Nat.gcd a b : Nat) : Int) = ((b / Nat.gcd a b : Nat) : Int) := rfl
  rw [e1, e2, w64_dv (by omega), w64_dv (by omega)]
def lowN (f : Frac) : Nat := f.Num.toNat / Nat.gcd f.Num.toNat f.Den.toNat
def lowD (f : Frac) : Nat := f.Den.toNat / Nat.gcd f.Num.toNat f.Den.toNat
def okV (f : Frac) : Prop := okF f ∧ 0 ≤ f.Num
theorem low_ok {f : Frac} (h : okV f) : lowN f ≤ 1000000 ∧ (1 ≤ lowD f ∧ lowD f ≤ 1000000) ∧ f.Num.toNat * lowD f = f.Den.toNat * lowN f ∧ (lowN f = 0 → f.Num = 0) := by
  obtain ⟨⟨h1, h2⟩, h0⟩ := h
  obtain ⟨n, hn⟩ : ∃ n : Nat, f.Num = n := ⟨f.Num.toNat, by omega⟩
  obtain ⟨d, hd⟩ : ∃ d : Nat, f.Den = d := ⟨f.Den.toNat, by omega⟩
  unfold lowN lowD
  rw [hn, hd, Int.toNat_natCast, Int.toNat_natCast]
  have hg : 0 < Nat.gcd n d := Nat.gcd_pos_of_pos_right _ (by omega)
  have e1 : n / Nat.gcd n d * Nat.gcd n d = n := Nat.div_mul_cancel (Nat.gcd_dvd_left n d)
  have e2 : d / Nat.gcd n d * Nat.gcd n d = d := Nat.div_mul_cancel (Nat.gcd_dvd_right n d)
  refine ⟨Nat.le_trans (Nat.div_le_self _ _) (by omega), ⟨(Nat.le_div_iff_mul_le hg).2 (by rw [Nat.one_mul]; exact Nat.gcd_le_right _ (by omega)), Nat.le_trans (Nat.div_le_self _ _) (by omega)⟩, ?_, fun h => ?_⟩
  · calc n * (d / Nat.gcd n d) = n / Nat.gcd n d * Nat.gcd n d * (d / Nat.gcd n d) := by rw [e1]
      _ = d / Nat.gcd n d * Nat.gcd n d * (n / Nat.gcd n d) := by rw [Nat.mul_assoc, Nat.mul_comm]; congr 1; exact Nat.mul_comm _ _
      _ = d * (n / Nat.gcd n d) := by rw [e2]
  · rw [h, Nat.zero_mul] at e1; omega
theorem low_W {f : Frac} (h : okV f) {k : Nat} (hk : 1000001 < k) : weight_fraction_lowest k ⟨f.Num, f.Den⟩ = some ⟨(lowN f : Int), (lowD f : Int)⟩ := by
  obtain ⟨⟨h1, h2⟩, h0⟩ := h
  have e1 : f.Num = ((f.Num.toNat : Nat) : Int) := by omega
  have e2 : f.Den = ((f.Den.toNat : Nat) : Int) := by omega
  have := low0_eq (a := f.Num.toNat) (b := f.Den.toNat) (by omega) (by omega) hk
  rw [← e1, ← e2] at this
  exact this
theorem low_R {f : Frac} (h : okV f) {k : Nat} (hk : 1000001 < k) : ref06_Lowest k f.Num f.Den = some ⟨(lowN f : Int), (lowD f : Int)⟩ := by
  obtain ⟨⟨h1, h2⟩, h0⟩ := h
  have e1 : f.Num = ((f.Num.toNat : Nat) : Int) := by omega
  have e2 : f.Den = ((f.Den.toNat : Nat) : Int) := by omega
  have := lowestR_eq (a := f.Num.toNat) (b := f.Den.toNat) (by omega) (by omega) hk
  rw [← e1, ← e2] at this
  exact this
/-! the common denominator -/
def lcmS (o d : Nat) : Nat := o * (d / Nat.gcd o d)
def comN : Nat → List Frac → Option Nat
  | o, [] => some o
  | o, f :: l => if lcmS o (lowD f) > 1000000 then none else comN (lcmS o (lowD f)) l
theorem lcmS_ok {o d : Nat} (ho : 1 ≤ o) (hd : 1 ≤ d) : o / Nat.gcd o d * d = lcmS o d ∧ o ∣ lcmS o d ∧ d ∣ lcmS o d ∧ 1 ≤ lcmS o d := by
  have hg : 0 < Nat.gcd o d := Nat.gcd_pos_of_pos_left _ (by omega)
  have h1 : o / Nat.gcd o d * d = lcmS o d := by
    unfold lcmS
    rw [Nat.div_mul_right_comm (Nat.gcd_dvd_left o d), Nat.mul_div_assoc _ (Nat.gcd_dvd_right o d)]
  refine ⟨h1, ⟨_, rfl⟩, ⟨o / Nat.gcd o d, by rw [← h1, Nat.mul_comm]⟩, ?_⟩
  unfold lcmS
  have : 1 ≤ d / Nat.gcd o d := (Nat.le_div_iff_mul_le hg).2 (by rw [Nat.one_mul]; exact Nat.gcd_le_right _ (by omega))
  exact Nat.mul_pos ho this
theorem lcmS_le {o d : Nat} (ho : o ≤ 1000000) (hd : d ≤ 1000000) : lcmS o d ≤ 1000000000000 := by
  unfold lcmS
  exact Nat.mul_le_mul ho (Nat.le_trans (Nat.div_le_self _ _) hd)
theorem comN_ok : ∀ (l : List Frac) (o r : Nat), (1 ≤ o ∧ o ≤ 1000000) → (∀ f ∈ l, okV f) → comN o l = some r → (1 ≤ r ∧ r ≤ 1000000) ∧ o ∣ r ∧ ∀ f ∈ l, lowD f ∣ r
  | [], o, r, ho, hl, h => by
    rw [comN] at h
    cases h
    exact ⟨ho, Nat.dvd_refl _, fun f hf => by cases hf⟩
  | f :: l, o, r, ho, hl, h => by
    rw [comN] at h
    have hf := low_ok (hl f List.mem_cons_self)
    obtain ⟨_, h1, h2, h3⟩ := lcmS_ok ho.1 hf.2.1.1
    by_cases hc : lcmS o (lowD f) > 1000000
    · rw [if_pos hc] at h; cases h
    · rw [if_neg hc] at h
      obtain ⟨a, b, c⟩ := comN_ok l _ r ⟨h3, by omega⟩ (fun g hg => hl g (List.mem_cons_of_mem _ hg)) h
      refine ⟨a, Nat.dvd_trans h1 b, fun g hg => ?_⟩
      rcases List.mem_cons.1 hg with rfl | hg
      · exact Nat.dvd_trans h2 b
      · exact c g hg
theorem com_l0 {l : List Frac} (hl : l.length ≤ 100000) (hok : ∀ f ∈ l, okV f) : ∀ (r x k o : Nat), x + r = l.length → r + 1000010 < k → (1 ≤ o ∧ o ≤ 1000000) →
    (comN o (l.drop x) = none ∧ weight_common.l0 k (o : Int) x l = some (.inl (0, false)) ∧ ref06_Common.l0 k (o : Int) x l 1000000 = some (.inl 1000001)) ∨ (∃ m : Nat, comN o (l.drop x) = some m ∧ weight_common.l0 k (o : Int) x l = some (.inr (m : Int)) ∧ ref06_Common.l0 k (o : Int) x l 1000000 = some (.inr (m : Int)))
  | 0, x, k, o, e, hk, ho => by
    obtain ⟨k, rfl⟩ : ∃ m, k = m + 1 := ⟨k - 1, by omega⟩
    refine .inr ⟨o, ?_, by rw [weight_common.l0, if_neg (by simp; omega)], by rw [ref06_Common.l0, if_neg (by simp; omega)]⟩
    rw [List.drop_of_length_le (by omega), comN]
  | r + 1, x, k, o, e, hk, ho => by
    obtain ⟨k, rfl⟩ : ∃ m, k = m + 1 := ⟨k - 1, by omega⟩
    have hx : x < l.length := by omega
    have hwx : w64 ((x : Int) + 1) = ((x + 1 : Nat) : Int) := by rw [w64_id (by omega) (by omega)]; rfl
    have hf := hok _ (List.getElem_mem hx)
    obtain ⟨f1, f2, f3⟩ := low_ok hf
    have hg : 0 < Nat.gcd o (lowD l[x]) := Nat.gcd_pos_of_pos_left _ (by omega)
    obtain ⟨q1, q2, q3, q4⟩ := lcmS_ok ho.1 f2.1
    have q5 := lcmS_le ho.2 f2.2
    have e1 : Int.tdiv (lowD l[x] : Int) ((Nat.gcd o (lowD l[x]) : Nat) : Int) = ((lowD l[x] / Nat.gcd o (lowD l[x]) : Nat) : Int) := rfl
    have e2 : Int.tdiv (o : Int) ((Nat.gcd o (lowD l[x]) : Nat) : Int) = ((o / Nat.gcd o (lowD l[x]) : Nat) : Int) := rfl
    have d1 : lowD l[x] / Nat.gcd o (lowD l[x]) ≤ lowD l[x] := Nat.div_le_self _ _
    have d2 : o / Nat.gcd o (lowD l[x]) ≤ o := Nat.div_le_self _ _
    have m1 : w64 ((o : Int) * ((lowD l[x] / Nat.gcd o (lowD l[x]) : Nat) : Int)) = ((lcmS o (lowD l[x]) : Nat) : Int) := by
      rw [mulN']; exact w64_id (n := ((lcmS o (lowD l[x]) : Nat) : Int)) (by omega) (by omega)
    have m2 : w64 (((o / Nat.gcd o (lowD l[x]) : Nat) : Int) * (lowD l[x] : Int)) = ((lcmS o (lowD l[x]) : Nat) : Int) := by
      rw [mulN', q1]; exact w64_id (by omega) (by omega)
    have w1 : w64 ((1000000 : Int) + 1) = 1000001 := by decide
    have g1 : ref06_gcd k (o : Int) (lowD l[x] : Int) = some ((Nat.gcd o (lowD l[x]) : Nat) : Int) := by
      unfold ref06_gcd; rw [gcdR_l0 k _ _ (by omega)]; rfl
    have s1 : weight_common.l0 (k + 1) (o : Int) x l = if (decide (((lcmS o (lowD l[x]) : Nat) : Int) > 1000000)) = true then some (.inl (0, false)) else weight_common.l0 k ((lcmS o (lowD l[x]) : Nat) : Int) ((x + 1 : Nat) : Int) l := by
      rw [weight_common.l0, if_pos (by simpa using hx), if_pos (by omega), rdD_get hx, low_W hf (by omega), Option.bind_some]
      simp only
      rw [gcd_eq (by omega), Option.bind_some, if_pos (by omega), e1, w64_dv (by omega), m1, hwx]
    have s2 : ref06_Common.l0 (k + 1) (o : Int) x l 1000000 = if (decide (minI ((lcmS o (lowD l[x]) : Nat) : Int) 1000001 > 1000000)) = true then some (.inl (minI ((lcmS o (lowD l[x]) : Nat) : Int) 1000001)) else ref06_Common.l0 k (minI ((lcmS o (lowD l[x]) : Nat) : Int) 1000001) ((x + 1 : Nat) : Int) l 1000000 := by
      rw [ref06_Common.l0, if_pos (by simpa using hx), if_pos (by omega), rdD_get hx, low_R hf (by omega), Option.bind_some]
      simp only
      rw [g1, Option.bind_some, if_pos (by omega), e2, w64_dv (by omega), m2, w1, hwx]
    rw [s1, s2, List.drop_eq_getElem_cons hx, comN]
    by_cases hc : lcmS o (lowD l[x]) > 1000000
    · have hm : minI ((lcmS o (lowD l[x]) : Nat) : Int) 1000001 = 1000001 := by unfold minI; split <;> omega
      rw [if_pos hc, hm, if_pos (by rw [decide_eq_true_eq]; omega), if_pos (by decide)]
      exact .inl ⟨rfl, rfl, rfl⟩
    · have hm : minI ((lcmS o (lowD l[x]) : Nat) : Int) 1000001 = ((lcmS o (lowD l[x]) : Nat) : Int) := by unfold minI; split <;> omega
      rw [if_neg hc, hm, if_neg (by rw [decide_eq_true_eq]; omega), if_neg (by rw [decide_eq_true_eq]; omega)]
      exact com_l0 hl hok r (x + 1) k _ (by omega) (by omega) ⟨q4, by omega⟩
theorem com_eq {l : List Frac} (hl : l.length ≤ 100000) (hok : ∀ f ∈ l, okV f) {k : Nat} (hk : 2000000 < k) :
    (comN 1 l = none ∧ weight_common k l = some (0, false) ∧ ref06_Common k l 1000000 = some 1000001) ∨ (∃ m : Nat, comN 1 l = some m ∧ weight_common k l = some ((m : Int), true) ∧ ref06_Common k l 1000000 = some (m : Int)) := by
  have h := com_l0 hl hok l.length 0 k 1 (by omega) (by omega) (by omega)
  rw [List.drop_zero] at h
  have h : (_ ∧ weight_common.l0 k 1 0 l = _ ∧ ref06_Common.l0 k 1 0 l 1000000 = _) ∨ (∃ m : Nat, comN 1 l = some m ∧ weight_common.l0 k 1 0 l = some (.inr (m : Int)) ∧ ref06_Common.l0 k 1 0 l 1000000 = some (.inr (m : Int))) := h
  unfold weight_common ref06_Common
  rcases h with ⟨a, b, c⟩ | ⟨m, a, b, c⟩
  · rw [b, c]; exact .inl ⟨a, rfl, rfl⟩
  · rw [b, c]; exact .inr ⟨m, a, rfl, rfl⟩
/-! rows -/
def rowC (s : List Tile) (p : List Int) (j : Nat) : Prop := (0 ≤ rdD p (j : Int) 0 ∧ rdD p (j : Int) 0 < (s.length : Int)) ∧ (0 < j → (rdD s (rdD p ((j - 1 : Nat) : Int) 0) z_Tile).E = (rdD s (rdD p (j : Int) 0) z_Tile).W)
def rowB (s : List Tile) (p : List Int) (x : Nat) : Bool := decide (rdD p (x : Int) 0 < 0) || (decide (rdD p (x : Int) 0 ≥ (s.length : Int)) || (decide ((x : Int) > 0) && ((rdD s (rdD p ((x - 1 : Nat) : Int) 0) z_Tile).E != (rdD s (rdD p (x : Int) 0) z_Tile).W)))
theorem rowB_iff (s : List Tile) (p : List Int) (x : Nat) : rowB s p x = false ↔ rowC s p x := by
  unfold rowB rowC
  simp only [Bool.or_eq_false_iff, Bool.and_eq_false_iff, decide_eq_false_iff_not, bne_eq_false_iff_eq]
  constructor
  · rintro ⟨a, b, c⟩
    refine ⟨by omega, fun h => ?_⟩
    rcases c with c | c
    · omega
    · exact c
  · rintro ⟨a, b⟩
    refine ⟨by omega, by omega, ?_⟩
    by_cases h : 0 < x
    · exact .inr (b h)
    · exact .inl (by omega)
theorem row_step1 {s : List Tile} {p : List Int} (hp : p.length ≤ 40000) {x k : Nat} (hx : x < p.length) (h : ∀ j, j < x → rowC s p j) : weight_Row.l0 (k + 1) x s p = (if rowB s p x = true then some (.inl (⟨0, 0⟩, ⟨0, 0⟩, 2)) else weight_Row.l0 k ((x + 1 : Nat) : Int) s p) := by
  have hwx : w64 ((x : Int) + 1) = ((x + 1 : Nat) : Int) := by rw [w64_id (by omega) (by omega)]; rfl
  rw [weight_Row.l0, if_pos (by simpa using hx), if_pos (by omega), hwx]
  unfold rowB
  cases h0 : decide (rdD p (x : Int) 0 < 0)
  · cases h1 : decide (rdD p (x : Int) 0 ≥ (s.length : Int))
    · cases h2 : decide ((x : Int) > 0)
      · rfl
      · rw [decide_eq_false_iff_not] at h0 h1
        rw [decide_eq_true_eq] at h2
        have hw1 : w64 ((x : Int) - 1) = ((x - 1 : Nat) : Int) := by rw [w64_id (by omega) (by omega)]; omega
        have hprev := (h (x - 1) (by omega)).1
        have c1 : 0 ≤ ((x - 1 : Nat) : Int) ∧ ((x - 1 : Nat) : Int) < (p.length : Int) := by omega
        have c2 : 0 ≤ rdD p (x : Int) 0 ∧ rdD p (x : Int) 0 < (s.length : Int) := by omega
        rw [if_neg (by decide), if_neg (by decide), if_pos rfl, hw1, if_pos c1, if_pos hprev, if_pos c2]
        rfl
    · rfl
  · rfl
theorem row_step2 {s : List Tile} {p : List Int} (hp : p.length ≤ 40000) {x k : Nat} (hx : x < p.length) (h : ∀ j, j < x → rowC s p j) : ref06_IsRow.l0 (k + 1) x s p = (if rowB s p x = true then some (.inl false) else ref06_IsRow.l0 k ((x + 1 : Nat) : Int) s p) := by
  have hwx : w64 ((x : Int) + 1) = ((x + 1 : Nat) : Int) := by rw [w64_id (by omega) (by omega)]; rfl
  have hr : 0 ≤ (x : Int) ∧ (x : Int) < (p.length : Int) := by omega
  rw [ref06_IsRow.l0, if_pos (by simpa using hx), hwx]
  unfold rowB
  cases h0 : decide (rdD p (x : Int) 0 < 0)
  · cases h1 : decide (rdD p (x : Int) 0 ≥ (s.length : Int))
    · cases h2 : decide ((x : Int) > 0)
      · rw [if_neg (by decide), if_neg (by decide), if_neg (by decide), if_pos hr]; rfl
      · rw [decide_eq_false_iff_not] at h0 h1
        rw [decide_eq_true_eq] at h2
        have hw1 : w64 ((x : Int) - 1) = ((x - 1 : Nat) : Int) := by rw [w64_id (by omega) (by omega)]; omega
        have hprev := (h (x - 1) (by omega)).1
        have c1 : 0 ≤ ((x - 1 : Nat) : Int) ∧ ((x - 1 : Nat) : Int) < (p.length : Int) := by omega
        have c2 : 0 ≤ rdD p (x : Int) 0 ∧ rdD p (x : Int) 0 < (s.length : Int) := by omega
        rw [if_neg (by decide), if_neg (by decide), if_pos rfl, if_pos hr, hw1, if_pos c1, if_pos hprev, if_pos c2]
        rfl
    · rw [if_neg (by decide), if_pos rfl, if_pos hr]; rfl
  · rw [if_pos rfl, if_pos hr]; rfl
theorem row_l0 {s : List Tile} {p : List Int} (hp : p.length ≤ 40000) : ∀ (r x k : Nat), x + r = p.length → r < k → (∀ j, j < x → rowC s p j) →
    (weight_Row.l0 k x s p = some (.inl (⟨0, 0⟩, ⟨0, 0⟩, 2)) ∧ ref06_IsRow.l0 k x s p = some (.inl false) ∧ ¬ ∀ j, j < p.length → rowC s p j) ∨ (weight_Row.l0 k x s p = some (.inr ()) ∧ ref06_IsRow.l0 k x s p = some (.inr ()) ∧ ∀ j, j < p.length → rowC s p j)
  | 0, x, k, e, hk, h => by
    obtain ⟨k, rfl⟩ : ∃ m, k = m + 1 := ⟨k - 1, by omega⟩
    exact .inr ⟨by rw [weight_Row.l0, if_neg (by simp; omega)], by rw [ref06_IsRow.l0, if_neg (by simp; omega)], fun j hj => h j (by omega)⟩
  | r + 1, x, k, e, hk, h => by
    obtain ⟨k, rfl⟩ : ∃ m, k = m + 1 := ⟨k - 1, by omega⟩
    have hx : x < p.length := by omega
    rw [row_step1 hp hx h, row_step2 hp hx h]
    have hc := rowB_iff s p x
    cases hb : rowB s p x
    · rw [if_neg (by decide), if_neg (by decide)]
      exact row_l0 hp r (x + 1) k (by omega) (by omega) fun j hj => by
        by_cases ej : j = x
        · subst ej; exact hc.1 hb
        · exact h j (by omega)
    · rw [if_pos rfl, if_pos rfl]
      exact .inl ⟨rfl, rfl, fun f => by rw [hc.2 (f x hx)] at hb; cases hb⟩
def isRow (s : List Tile) (p : List Int) : Prop := (1 ≤ p.length ∧ p.length ≤ 40000) ∧ ∀ j, j < p.length → rowC s p j
theorem isRow_eq (s : List Tile) (p : List Int) {k : Nat} (hk : 100000 < k) : ∃ b, ref06_IsRow k s p = some b ∧ (b = true ↔ isRow s p) := by
  unfold ref06_IsRow
  by_cases hl : ((decide ((p.length : Int) < 1)) || (decide ((p.length : Int) > 40000))) = true
  · rw [if_pos hl]
    simp only [Bool.or_eq_true, decide_eq_true_eq] at hl
    exact ⟨false, rfl, fun h => (by cases h), fun h => by have := h.1; omega⟩
  rw [if_neg hl]
  simp only [Bool.or_eq_true, decide_eq_true_eq, not_or] at hl
  have h := row_l0 (s := s) (p := p) (by omega) p.length 0 k (by omega) (by omega) (fun j hj => by omega)
  have h : (_ ∧ ref06_IsRow.l0 k 0 s p = some (.inl false) ∧ _) ∨ (_ ∧ ref06_IsRow.l0 k 0 s p = some (.inr ()) ∧ _) := h
  rcases h with ⟨_, h, h2⟩ | ⟨_, h, h2⟩
  · rw [h]; exact ⟨false, rfl, fun h => (by cases h), fun R => absurd R.2 h2⟩
  · rw [h]; exact ⟨true, rfl, fun _ => ⟨by omega, h2⟩, fun _ => rfl⟩
/-! sums -/
def partV (w : Weights) (den : Nat) (c : Int) : Nat := lowN (fr w.Values c) * (den / lowD (fr w.Values c))
def sumP (g : Int → Nat) : List Int → Nat
  | [] => 0
  | x :: l => g x + sumP g l
def gS (s : List Tile) (w : Weights) (den : Nat) (x : Int) : Nat := partV w den (rdD s x z_Tile).S
def gN (s : List Tile) (w : Weights) (den : Nat) (x : Int) : Nat := partV w den (rdD s x z_Tile).N
theorem partV_le {w : Weights} {den : Nat} {c : Int} (hd : den ≤ 1000000) (h : okV (fr w.Values c)) : partV w den c ≤ 1000000000000 := by
  unfold partV
  exact Nat.mul_le_mul (low_ok h).1 (Nat.le_trans (Nat.div_le_self _ _) hd)
theorem row1_eq {w : Weights} {den : Nat} {c : Int} (hc : 0 ≤ c ∧ c < (w.Values.length : Int)) (hd : den ≤ 1000000) (h : okV (fr w.Values c)) {k : Nat} (hk : 1000001 < k) : weight_Row_1 k c w (den : Int) = some ((partV w den c : Nat) : Int) := by
  have hl := low_W h hk
  have hl : weight_fraction_lowest k (Fraction.mk ((rdD w.Values c z_Frac).Num) ((rdD w.Values c z_Frac).Den)) = _ := hl
  have hb := low_ok h
  have h1 := partV_le hd h
  have h2 : den / lowD (fr w.Values c) ≤ den := Nat.div_le_self _ _
  have e1 : Int.tdiv (den : Int) (lowD (fr w.Values c) : Int) = ((den / lowD (fr w.Values c) : Nat) : Int) := rfl
  unfold weight_Row_1
  rw [if_pos hc, hl, Option.bind_some]
  simp only
  rw [if_pos (by omega), e1, w64_dv (by omega), mulN']
  rw [show lowN (fr w.Values c) * (den / lowD (fr w.Values c)) = partV w den c from rfl, w64_id (by omega) (by omega)]
theorem rowS_l1 {s : List Tile} {w : Weights} (ok : OKW s w) {p : List Int} (hp : p.length ≤ 40000) {den : Nat} (hd : den ≤ 1000000) (hr : ∀ j, j < p.length → rowC s p j) (b : Bool) : ∀ (r x k : Nat) (S N : Nat), x + r = p.length → r + 1000001 < k → S ≤ 1000000000000 * x → N ≤ 1000000000000 * x →
    weight_Row.l1 k (S : Int) (N : Int) x s w p ((den : Int), b) = some (((S + sumP (gS s w den) (p.drop x) : Nat) : Int), ((N + sumP (gN s w den) (p.drop x) : Nat) : Int)) ∧ ref06_Sum.l0 k (S : Int) x s w p false (den : Int) = some ((S + sumP (gS s w den) (p.drop x) : Nat) : Int) ∧ ref06_Sum.l0 k (N : Int) x s w p true (den : Int) = some ((N + sumP (gN s w den) (p.drop x) : Nat) : Int)
  | 0, x, k, S, N, e, hk, h1, h2 => by
    obtain ⟨k, rfl⟩ : ∃ m, k = m + 1 := ⟨k - 1, by omega⟩
    rw [List.drop_of_length_le (by omega), weight_Row.l1, ref06_Sum.l0, ref06_Sum.l0, if_neg (by simp; omega), if_neg (by simp; omega), if_neg (by simp; omega)]
    exact ⟨rfl, rfl, rfl⟩
  | r + 1, x, k, S, N, e, hk, h1, h2 => by
    obtain ⟨k, rfl⟩ : ∃ m, k = m + 1 := ⟨k - 1, by omega⟩
    have hx : x < p.length := by omega
    have hwx : w64 ((x : Int) + 1) = ((x + 1 : Nat) : Int) := by rw [w64_id (by omega) (by omega)]; rfl
    have hin := (hr x hx).1
    obtain ⟨i, hi⟩ : ∃ i : Nat, rdD p (x : Int) 0 = i := ⟨(rdD p (x : Int) 0).toNat, by omega⟩
    rw [hi] at hin
    have hi' : i < s.length := by omega
    have oS := ok.S i hi'
    have oN := ok.N i hi'
    have vS : okV (fr w.Values (tw s i).S) := ok.okv _ (fr_mem oS)
    have vN : okV (fr w.Values (tw s i).N) := ok.okv _ (fr_mem oN)
    have bS := partV_le hd vS
    have bN := partV_le hd vN
    have hpx : p[x] = (i : Int) := by rw [← hi, rdD_get hx]
    have rS : weight_Row_1 k (rdD s (i : Int) z_Tile).S w (den : Int) = some ((partV w den (tw s i).S : Nat) : Int) := row1_eq oS hd vS (by omega)
    have rN : weight_Row_1 k (rdD s (i : Int) z_Tile).N w (den : Int) = some ((partV w den (tw s i).N : Nat) : Int) := row1_eq oN hd vN (by omega)
    have lS : ref06_Lowest k (rdD w.Values ((rdD s (i : Int) z_Tile).S) z_Frac).Num (rdD w.Values ((rdD s (i : Int) z_Tile).S) z_Frac).Den = some ⟨(lowN (fr w.Values (tw s i).S) : Int), (lowD (fr w.Values (tw s i).S) : Int)⟩ := low_R vS (by omega)
    have lN : ref06_Lowest k (rdD w.Values ((rdD s (i : Int) z_Tile).N) z_Frac).Num (rdD w.Values ((rdD s (i : Int) z_Tile).N) z_Frac).Den = some ⟨(lowN (fr w.Values (tw s i).N) : Int), (lowD (fr w.Values (tw s i).N) : Int)⟩ := low_R vN (by omega)
    have dS := low_ok vS
    have dN := low_ok vN
    have qS : den / lowD (fr w.Values (tw s i).S) ≤ den := Nat.div_le_self _ _
    have qN : den / lowD (fr w.Values (tw s i).N) ≤ den := Nat.div_le_self _ _
    have eS : Int.tdiv (den : Int) (lowD (fr w.Values (tw s i).S) : Int) = ((den / lowD (fr w.Values (tw s i).S) : Nat) : Int) := rfl
    have eN : Int.tdiv (den : Int) (lowD (fr w.Values (tw s i).N) : Int) = ((den / lowD (fr w.Values (tw s i).N) : Nat) : Int) := rfl
    have pS : (lowN (fr w.Values (tw s i).S) : Int) * ((den / lowD (fr w.Values (tw s i).S) : Nat) : Int) = ((partV w den (tw s i).S : Nat) : Int) := mulN' _ _
    have pN : (lowN (fr w.Values (tw s i).N) : Int) * ((den / lowD (fr w.Values (tw s i).N) : Nat) : Int) = ((partV w den (tw s i).N : Nat) : Int) := mulN' _ _
    have aS : w64 ((S : Int) + ((partV w den (tw s i).S : Nat) : Int)) = ((S + partV w den (tw s i).S : Nat) : Int) := by rw [w64_id (by omega) (by omega)]; rfl
    have aN : w64 ((N : Int) + ((partV w den (tw s i).N : Nat) : Int)) = ((N + partV w den (tw s i).N : Nat) : Int) := by rw [w64_id (by omega) (by omega)]; rfl
    obtain ⟨g1, g2, g3⟩ := rowS_l1 ok hp hd hr b r (x + 1) k (S + partV w den (tw s i).S) (N + partV w den (tw s i).N) (by omega) (by omega) (by omega) (by omega)
    have zS : S + sumP (gS s w den) (p.drop x) = S + partV w den (tw s i).S + sumP (gS s w den) (p.drop (x + 1)) := by
      rw [List.drop_eq_getElem_cons hx, sumP, hpx, Nat.add_assoc]; rfl
    have zN : N + sumP (gN s w den) (p.drop x) = N + partV w den (tw s i).N + sumP (gN s w den) (p.drop (x + 1)) := by
      rw [List.drop_eq_getElem_cons hx, sumP, hpx, Nat.add_assoc]; rfl
    refine ⟨?_, ?_, ?_⟩
    · rw [weight_Row.l1, if_pos (by simpa using hx), if_pos (by omega), hi, if_pos hin]
      simp only
      rw [rS, Option.bind_some, rN, Option.bind_some, aS, aN, hwx, g1, zS, zN]
    · rw [ref06_Sum.l0, if_pos (by simpa using hx), if_pos (by omega), hi, if_pos hin, if_neg (by decide), Option.bind_some, if_pos (by exact oS), lS, Option.bind_some, Option.bind_some]
      simp only
      rw [if_pos (by omega), eS, w64_dv (by omega), pS, w64_id (n := ((partV w den (tw s i).S : Nat) : Int)) (by omega) (by omega), aS, hwx, g2, zS]
    · rw [ref06_Sum.l0, if_pos (by simpa using hx), if_pos (by omega), hi, if_pos hin, if_pos rfl, Option.bind_some, if_pos (by exact oN), lN, Option.bind_some, Option.bind_some]
      simp only
      rw [if_pos (by omega), eN, w64_dv (by omega), pN, w64_id (n := ((partV w den (tw s i).N : Nat) : Int)) (by omega) (by omega), aN, hwx, g3, zN]
end Gp
set_option linter.unusedVariables false
set_option linter.unusedSimpArgs false
namespace Gp
open Gw Gq
def lowF (a b : Nat) : Frac := ⟨((a / Nat.gcd a b : Nat) : Int), ((b / Nat.gcd a b : Nat) : Int)⟩
theorem okVs {s : List Tile} {w : Weights} (V : ValidW s w) : (∀ f ∈ w.Values, okV f) ∧ w.Values.length ≤ 100000 := ⟨fun f hf => V.okv f hf, by have := V.vl; have := (cV_bd V.vt).1; omega⟩
theorem wrow_ok {s : List Tile} {w : Weights} {p : List Int} (hs : s.length ≤ 9223372036854775807) (V : ValidW s w) (R : isRow s p) {k : Nat} (hk : 4294990000 < k) :
    (comN 1 w.Values = none → weight_Row k s w p = some (⟨0, 0⟩, ⟨0, 0⟩, 4)) ∧ ∀ den, comN 1 w.Values = some den → weight_Row k s w p = if okFb (lowF (sumP (gS s w den) p) den) = true ∧ okFb (lowF (sumP (gN s w den) p) den) = true then some (lowF (sumP (gS s w den) p) den, lowF (sumP (gN s w den) p) den, 0) else some (⟨0, 0⟩, ⟨0, 0⟩, 4) := by
  obtain ⟨v, h1, h2⟩ := valW (w := w) hs (k := k) (by omega)
  obtain ⟨ok, op, co⟩ := V.all
  obtain ⟨vo, vl⟩ := okVs V
  unfold weight_Row
  rw [h1, Option.bind_some, h2.2 V, if_neg (by decide)]
  have hl := R.1
  rw [if_neg (by simp only [Bool.or_eq_true, decide_eq_true_eq]; omega)]
  have h := row_l0 (s := s) (p := p) (by omega) p.length 0 k (by omega) (by omega) (fun j hj => by omega)
  have h : (weight_Row.l0 k 0 s p = some (.inl (⟨0, 0⟩, ⟨0, 0⟩, 2)) ∧ _ ∧ ¬ ∀ j, j < p.length → rowC s p j) ∨ (weight_Row.l0 k 0 s p = some (.inr ()) ∧ _ ∧ _) := h
  rcases h with ⟨_, _, h⟩ | ⟨h, _, hr⟩
  · exact absurd R.2 h
  rw [h, Option.bind_some]
  show (_ → ((weight_common k w.Values).bind _) = _) ∧ ∀ den, _ → ((weight_common k w.Values).bind _) = _
  rcases com_eq vl vo (k := k) (by omega) with ⟨c1, c2, _⟩ | ⟨m, c1, c2, _⟩
  · rw [c1, c2]
    exact ⟨fun _ => rfl, fun den h => (by cases h)⟩
  · rw [c1, c2]
    refine ⟨fun h => (by cases h), fun den h => ?_⟩
    cases h
    obtain ⟨m1, m2, m3⟩ := comN_ok w.Values 1 m (by omega) vo c1
    have hS := rowS_l1 ok hl.2 m1.2 hr true p.length 0 k 0 0 (by omega) (by omega) (by omega) (by omega)
    have hS : weight_Row.l1 k 0 0 0 s w p ((m : Int), true) = _ ∧ _ := hS
    have hS := hS.1
    rw [List.drop_zero, Nat.zero_add, Nat.zero_add] at hS
    have bd : ∀ (g : Int → Nat) (l : List Int), (∀ x ∈ l, g x ≤ 1000000000000) → sumP g l ≤ 1000000000000 * l.length := fun g l => by
      induction l with
      | nil => intro _; exact Nat.zero_le _
      | cons x l ih =>
        intro h
        have h1 := h x List.mem_cons_self
        have h2 := ih fun y hy => h y (List.mem_cons_of_mem _ hy)
        rw [sumP, List.length_cons]; omega
    have bS : sumP (gS s w m) p ≤ 1000000000000 * p.length := bd _ _ fun x hx => by
      obtain ⟨j, hj, rfl⟩ := List.getElem_of_mem hx
      have hin := (hr j hj).1
      rw [rdD_get hj] at hin
      obtain ⟨i, hi⟩ : ∃ i : Nat, p[j] = i := ⟨p[j].toNat, by omega⟩
      rw [hi] at hin ⊢
      exact partV_le m1.2 (ok.okv _ (fr_mem (ok.S i (by omega))))
    have bN : sumP (gN s w m) p ≤ 1000000000000 * p.length := bd _ _ fun x hx => by
      obtain ⟨j, hj, rfl⟩ := List.getElem_of_mem hx
      have hin := (hr j hj).1
      rw [rdD_get hj] at hin
      obtain ⟨i, hi⟩ : ∃ i : Nat, p[j] = i := ⟨p[j].toNat, by omega⟩
      rw [hi] at hin ⊢
      exact partV_le m1.2 (ok.okv _ (fr_mem (ok.N i (by omega))))
    have q1 := low0_eq (a := sumP (gS s w m) p) (b := m) (by omega) m1 (k := k) (by omega)
    have q2 := low0_eq (a := sumP (gN s w m) p) (b := m) (by omega) m1 (k := k) (by omega)
    rw [Option.bind_some, if_neg (by simp), Option.bind_some, hS, Option.bind_some]
    simp only
    rw [q1, Option.bind_some, q2, Option.bind_some]
    have v1 : weight_fraction_valid ⟨((sumP (gS s w m) p / Nat.gcd (sumP (gS s w m) p) m : Nat) : Int), ((m / Nat.gcd (sumP (gS s w m) p) m : Nat) : Int)⟩ = some (okFb (lowF (sumP (gS s w m) p) m)) := rfl
    have v2 : weight_fraction_valid ⟨((sumP (gN s w m) p / Nat.gcd (sumP (gN s w m) p) m : Nat) : Int), ((m / Nat.gcd (sumP (gN s w m) p) m : Nat) : Int)⟩ = some (okFb (lowF (sumP (gN s w m) p) m)) := rfl
    rw [v1, v2, Option.bind_some]
    cases okFb (lowF (sumP (gS s w m) p) m)
    · rfl
    · cases okFb (lowF (sumP (gN s w m) p) m)
      · rfl
      · rfl
end Gp
set_option linter.unusedVariables false
set_option linter.unusedSimpArgs false
namespace Gp
open Gw Gq
theorem rat_part {ln ld q n D : Rat} (hD : D ≠ 0) (h : n * ld = D * ln) : ln * q = ld * q * (n / D) := by grind
theorem part_vl {w : Weights} {den : Nat} {c : Int} (h : okV (fr w.Values c)) (hd : lowD (fr w.Values c) ∣ den) : ((partV w den c : Nat) : Rat) = (den : Rat) * vl (fr w.Values c) := by
  obtain ⟨q, hq⟩ := hd
  obtain ⟨a, b, e, _⟩ := low_ok h
  have hdiv : den / lowD (fr w.Values c) = q := by rw [hq, Nat.mul_div_cancel_left _ (by omega)]
  have hD := den_ne h.1
  have e1 : (fr w.Values c).Num = (((fr w.Values c).Num.toNat : Nat) : Int) := by have := h.2; omega
  have e2 : (fr w.Values c).Den = (((fr w.Values c).Den.toNat : Nat) : Int) := by have := h.1.2; omega
  have hR : ((fr w.Values c).Num : Rat) * ((lowD (fr w.Values c) : Nat) : Rat) = ((fr w.Values c).Den : Rat) * ((lowN (fr w.Values c) : Nat) : Rat) := by
    rw [e1, e2]
    exact_mod_cast e
  unfold partV vl
  rw [hdiv, hq, Rat.natCast_mul, Rat.natCast_mul]
  exact rat_part hD hR
theorem sumP_app (g : Int → Nat) : ∀ (l : List Int) (x : Int), sumP g (l ++ [x]) = sumP g l + g x
  | [], x => by simp [sumP]
  | y :: l, x => by rw [List.cons_append, sumP, sumP, sumP_app g l x, Nat.add_assoc]
theorem rat_add_mul {a b d x y : Rat} (h1 : a = d * x) (h2 : b = d * y) : a + b = d * (x + y) := by grind
theorem sumP_R {g : Int → Nat} {h : Nat → Rat} {d : Rat} {p : List Int} (hg : ∀ j (hj : j < p.length), ((g p[j] : Nat) : Rat) = d * h j) : ∀ m, m ≤ p.length → ((sumP g (p.take m) : Nat) : Rat) = d * sumR h m
  | 0, _ => by rw [List.take_zero, sumP, sumR, Rat.mul_zero]; rfl
  | m + 1, hm => by
    have hlt : m < p.length := by omega
    rw [List.take_succ_eq_append_getElem hlt, sumP_app, sumR, Rat.natCast_add]
    exact rat_add_mul (sumP_R hg m (by omega)) (hg m hlt)
theorem sumP_zero {g : Int → Nat} : ∀ (l : List Int), sumP g l = 0 → ∀ x ∈ l, g x = 0
  | [], _, x, hx => by cases hx
  | y :: l, h, x, hx => by
    rw [sumP] at h
    rcases List.mem_cons.1 hx with rfl | hx
    · omega
    · exact sumP_zero l (by omega) x hx
theorem rat_row {f a b w0 s n w1 w2 : Rat} (h : f * a + w0 = b + w1) (h2 : f * s + w1 = n + w2) : f * (a + s) + w0 = b + n + w2 := by grind
section
variable {s : List Tile} {w : Weights} {T : Nat → Nat} {L : Nat}
theorem line_factor (ok : OKW s w) (hp : pairsF s w) (hT : ∀ j, j < L → T j < s.length) (hE : ∀ j, j + 1 < L → (tw s (T j)).E = (tw s (T (j + 1))).W) : ∀ j, j < L → vl (fr w.Factors ((T j : Nat) : Int)) = vl (fr w.Factors ((T 0 : Nat) : Int))
  | 0, _ => rfl
  | j + 1, h => by
    rw [← line_factor ok hp hT hE j (by omega)]
    exact (eqF_vl (ok.f (hT j (by omega))).1 (ok.f (hT (j + 1) h)).1 (hp _ _ (hT j (by omega)) (hT (j + 1) h) (hE j h))).symm
def outC (s : List Tile) (w : Weights) (T : Nat → Nat) : Nat → Rat
  | 0 => vl (fr w.Carries (tw s (T 0)).W)
  | m + 1 => vl (fr w.Carries (tw s (T m)).E)
theorem line_sum (ok : OKW s w) (hb : (List.range s.length).all (balT s w) = true) (hp : pairsF s w) (hT : ∀ j, j < L → T j < s.length) (hE : ∀ j, j + 1 < L → (tw s (T j)).E = (tw s (T (j + 1))).W) : ∀ m, m ≤ L → vl (fr w.Factors ((T 0 : Nat) : Int)) * sumR (fun j => vl (fr w.Values (tw s (T j)).S)) m + vl (fr w.Carries (tw s (T 0)).W) = sumR (fun j => vl (fr w.Values (tw s (T j)).N)) m + outC s w T m
  | 0, _ => by rw [sumR, sumR, Rat.mul_zero]; rfl
  | m + 1, hm => by
    have ih := line_sum ok hb hp hT hE m (by omega)
    have hlt := hT m (by omega)
    have hbm := List.all_eq_true.1 hb (T m) (List.mem_range.2 hlt)
    unfold balT at hbm
    rw [decide_eq_true_eq] at hbm
    have h2 := bal_vl (ok.f hlt).1 (ok.okv _ (fr_mem (ok.S _ hlt))).1 (ok.okc _ (fr_mem (ok.W _ hlt))) (ok.okv _ (fr_mem (ok.N _ hlt))).1 (ok.okc _ (fr_mem (ok.E _ hlt))) hbm
    rw [line_factor ok hp hT hE m (by omega)] at h2
    have ho : outC s w T m = vl (fr w.Carries (tw s (T m)).W) := by
      cases m with
      | zero => rfl
      | succ m => show vl (fr w.Carries (tw s (T m)).E) = _; rw [hE m (by omega)]
    rw [ho] at ih
    exact rat_row ih h2
end
theorem rat_fin {kn kd S N d : Rat} (hk : kd ≠ 0) (hd : d ≠ 0) {x y : Rat} (h1 : S = d * x) (h2 : N = d * y) (h : kn / kd * x = y) : kn * S = N * kd := by grind
theorem rat_canc {f a b w0 : Rat} (h : f * a + w0 = b + w0) : f * a = b := by grind
theorem rows_rel {s : List Tile} {w : Weights} {p : List Int} (V : ValidW s w) (P : CheckP s w) (R : isRow s p) (hc : (rdD s (rdD p 0 0) z_Tile).W = (rdD s (rdD p ((p.length - 1 : Nat) : Int) 0) z_Tile).E) {den : Nat} (hd : comN 1 w.Values = some den) :
    (fr w.Factors (rdD p 0 0)).Num * ((sumP (gS s w den) p : Nat) : Int) = ((sumP (gN s w den) p : Nat) : Int) * (fr w.Factors (rdD p 0 0)).Den ∧ 0 < sumP (gS s w den) p := by
  obtain ⟨ok, op, co⟩ := V.all
  obtain ⟨vo, vln⟩ := okVs V
  obtain ⟨m1, m2, m3⟩ := comN_ok w.Values 1 den (by omega) vo hd
  have hl := R.1
  have hT : ∀ j, j < p.length → (rdD p (j : Int) 0).toNat < s.length := fun j hj => by have := (R.2 j hj).1; omega
  have hTi : ∀ j, j < p.length → (((rdD p (j : Int) 0).toNat : Nat) : Int) = rdD p (j : Int) 0 := fun j hj => by have := (R.2 j hj).1; omega
  have htw : ∀ j, j < p.length → tw s (rdD p (j : Int) 0).toNat = rdD s (rdD p (j : Int) 0) z_Tile := fun j hj => by
    show rdD s _ z_Tile = _
    rw [hTi j hj]
  have hE : ∀ j, j + 1 < p.length → (tw s (rdD p (j : Int) 0).toNat).E = (tw s (rdD p ((j + 1 : Nat) : Int) 0).toNat).W := fun j hj => by
    rw [htw j (by omega), htw (j + 1) hj]
    exact (R.2 (j + 1) hj).2 (by omega)
  have hs := line_sum (T := fun j => (rdD p (j : Int) 0).toNat) ok P.bal P.pairs hT hE p.length (Nat.le_refl _)
  have h0 : (((rdD p ((0 : Nat) : Int) 0).toNat : Nat) : Int) = rdD p 0 0 := hTi 0 (by omega)
  have ho : outC s w (fun j => (rdD p (j : Int) 0).toNat) p.length = vl (fr w.Carries (tw s (rdD p ((0 : Nat) : Int) 0).toNat).W) := by
    obtain ⟨m, hm⟩ : ∃ m, p.length = m + 1 := ⟨p.length - 1, by omega⟩
    rw [hm]
    show vl (fr w.Carries (tw s (rdD p (m : Int) 0).toNat).E) = _
    rw [htw m (by omega), htw 0 (by omega)]
    rw [show p.length - 1 = m by omega] at hc
    rw [← hc]; rfl
  rw [ho] at hs
  have hs := rat_canc hs
  have hS : ((sumP (gS s w den) p : Nat) : Rat) = (den : Rat) * sumR (fun j => vl (fr w.Values (tw s (rdD p (j : Int) 0).toNat).S)) p.length := by
    have := sumP_R (g := gS s w den) (h := fun j => vl (fr w.Values (tw s (rdD p (j : Int) 0).toNat).S)) (d := (den : Rat)) (p := p) (fun j hj => by
      show ((partV w den (rdD s p[j] z_Tile).S : Nat) : Rat) = _ * vl _
      rw [htw j hj, rdD_get hj]
      have hlt := hT j hj
      have oS := ok.S _ hlt
      rw [htw j hj, rdD_get hj] at oS
      exact part_vl (ok.okv _ (fr_mem oS)) (m3 _ (fr_mem oS))) p.length (Nat.le_refl _)
    rwa [List.take_length] at this
  have hN : ((sumP (gN s w den) p : Nat) : Rat) = (den : Rat) * sumR (fun j => vl (fr w.Values (tw s (rdD p (j : Int) 0).toNat).N)) p.length := by
    have := sumP_R (g := gN s w den) (h := fun j => vl (fr w.Values (tw s (rdD p (j : Int) 0).toNat).N)) (d := (den : Rat)) (p := p) (fun j hj => by
      show ((partV w den (rdD s p[j] z_Tile).N : Nat) : Rat) = _ * vl _
      rw [htw j hj, rdD_get hj]
      have hlt := hT j hj
      have oN := ok.N _ hlt
      rw [htw j hj, rdD_get hj] at oN
      exact part_vl (ok.okv _ (fr_mem oN)) (m3 _ (fr_mem oN))) p.length (Nat.le_refl _)
    rwa [List.take_length] at this
  have h00 := hT 0 (by omega)
  have kF := (ok.f h00).1
  have hdne : (den : Rat) ≠ 0 := fun e => by
    have : den = 0 := by exact_mod_cast e
    omega
  have key := rat_fin (den_ne kF) hdne hS hN hs
  rw [h0] at key
  refine ⟨by exact_mod_cast key, ?_⟩
  rcases Nat.eq_zero_or_pos (sumP (gS s w den) p) with hz | hz
  · exfalso
    have hz := sumP_zero p hz
    have hC := P.cyc ((List.range p.length).map fun (j : Nat) => tw s (rdD p (j : Int) 0).toNat) (fun t ht => ?_) (fun t ht => ?_)
    · have := congrArg List.length hC
      simp at this
      rw [this] at hl
      simp at hl
    · obtain ⟨j, hj, rfl⟩ := List.mem_map.1 ht
      have hj := List.mem_range.1 hj
      have hlt := hT j hj
      unfold zeroT
      refine List.mem_filter.2 ⟨by rw [tw_get hlt]; exact List.getElem_mem hlt, ?_⟩
      have hg := hz p[j] (List.getElem_mem hj)
      have hg : partV w den (rdD s p[j] z_Tile).S = 0 := hg
      have oS := ok.S _ hlt
      rw [htw j hj, rdD_get hj] at oS ⊢
      have vS : okV (fr w.Values (rdD s p[j] z_Tile).S) := ok.okv _ (fr_mem oS)
      obtain ⟨a, b, c, d⟩ := low_ok vS
      have hq := m3 _ (fr_mem oS)
      have h1 : 1 ≤ den / lowD (fr w.Values (rdD s p[j] z_Tile).S) := (Nat.le_div_iff_mul_le (by omega)).2 (by rw [Nat.one_mul]; exact Nat.le_of_dvd (by omega) hq)
      unfold partV at hg
      rw [beq_iff_eq]
      refine d ?_
      rcases Nat.mul_eq_zero.1 hg with h | h
      · exact h
      · omega
    · obtain ⟨j, hj, rfl⟩ := List.mem_map.1 ht
      have hj := List.mem_range.1 hj
      by_cases hj1 : j + 1 < p.length
      · exact ⟨_, List.mem_map.2 ⟨j + 1, List.mem_range.2 hj1, rfl⟩, (hE j hj1).symm⟩
      · refine ⟨_, List.mem_map.2 ⟨0, List.mem_range.2 (by omega), rfl⟩, ?_⟩
        rw [htw j hj, htw 0 (by omega)]
        rw [show p.length - 1 = j by omega] at hc
        exact hc
  · exact hz
theorem low_rel {S N den : Nat} {kN kD : Int} (hd : 1 ≤ den) (h : kN * (S : Int) = (N : Int) * kD) : (lowF N den).Num * (lowF S den).Den * kD = kN * (lowF S den).Num * (lowF N den).Den := by
  have g1 : 0 < Nat.gcd S den := Nat.gcd_pos_of_pos_right _ (by omega)
  have g2 : 0 < Nat.gcd N den := Nat.gcd_pos_of_pos_right _ (by omega)
  have a1 : S / Nat.gcd S den * Nat.gcd S den = S := Nat.div_mul_cancel (Nat.gcd_dvd_left ..)
  have a2 : den / Nat.gcd S den * Nat.gcd S den = den := Nat.div_mul_cancel (Nat.gcd_dvd_right ..)
  have b1 : N / Nat.gcd N den * Nat.gcd N den = N := Nat.div_mul_cancel (Nat.gcd_dvd_left ..)
  have b2 : den / Nat.gcd N den * Nat.gcd N den = den := Nat.div_mul_cancel (Nat.gcd_dvd_right ..)
  unfold lowF
  simp only
  generalize S / Nat.gcd S den = a at *
  generalize den / Nat.gcd S den = b at *
  generalize N / Nat.gcd N den = c at *
  generalize den / Nat.gcd N den = d at *
  generalize Nat.gcd S den = x at *
  generalize Nat.gcd N den = y at *
  have a1 : (a : Int) * x = S := by exact_mod_cast a1
  have b1 : (c : Int) * y = N := by exact_mod_cast b1
  have a2 : (b : Int) * x = den := by exact_mod_cast a2
  have b2 : (d : Int) * y = den := by exact_mod_cast b2
  have hxy : (x : Int) * y ≠ 0 := Int.mul_ne_zero (by omega) (by omega)
  refine Int.eq_of_mul_eq_mul_right hxy ?_
  rw [← a1, ← b1] at h
  have e : (b : Int) * x = d * y := by rw [a2, b2]
  grind
end Gp
set_option linter.unusedVariables false
set_option linter.unusedSimpArgs false
namespace Gp
open Gw Gq
theorem mul3_bd {a b c : Int} (ha : -1000000 ≤ a ∧ a ≤ 1000000) (hb : -1000000 ≤ b ∧ b ≤ 1000000) (hc : -1000000 ≤ c ∧ c ≤ 1000000) : w64 (w64 (a * b) * c) = a * b * c := by
  have h1 : (a * b).natAbs ≤ 1000000 * 1000000 := by rw [Int.natAbs_mul]; exact Nat.mul_le_mul (by omega) (by omega)
  have h2 : (a * b * c).natAbs ≤ 1000000 * 1000000 * 1000000 := by rw [Int.natAbs_mul]; exact Nat.mul_le_mul h1 (by omega)
  rw [w64_id (n := a * b) (by omega) (by omega), w64_id (n := a * b * c) (by omega) (by omega)]
theorem law06_WeightRows_pure : ∀ (p0 : List Tile) (p1 : Weights) (p2 : List Int), ((∀ x ∈ p0, ok_Tile x) ∧ p0.length ≤ Go.maxLen) → (ok_Weights p1) → ((∀ x ∈ p2, ok64 x) ∧ p2.length ≤ Go.maxLen) → ∃ k, law06_WeightRows k p0 p1 p2 = some true := by
  intro s w p hs _ _
  have hl : s.length ≤ 9223372036854775807 := hs.2
  refine ⟨4999999600 + 400, ?_⟩
  have aw := awake06_ok 4999999600
  obtain ⟨bw, hbw⟩ := wide06 s w
  obtain ⟨r, hr, hr2⟩ := isRow_eq s p (k := 4999999600 + 400) (by omega)
  unfold law06_WeightRows
  rw [hbw, aw, hr, valid01 s (by omega) hl]
  by_cases h60 : decide ((s.length : Int) > 60) = true
  · rw [if_pos h60]; rfl
  rw [if_neg h60, Option.bind_some]
  rw [decide_eq_true_eq] at h60
  cases bw
  rotate_left
  · rfl
  rw [if_neg (by decide), Option.bind_some, Option.bind_some]
  cases hv : validT s
  · rfl
  rw [if_neg (by decide), Option.bind_some, Option.bind_some]
  cases r
  · rfl
  have R := hr2.1 rfl
  have hp := R.1
  have r0 := (R.2 0 (by omega)).1
  have r1 := (R.2 (p.length - 1) (by omega)).1
  have r0 : 0 ≤ rdD p (0 : Int) 0 ∧ rdD p (0 : Int) 0 < (s.length : Int) := r0
  have hw : w64 ((p.length : Int) - 1) = ((p.length - 1 : Nat) : Int) := by rw [w64_id (by omega) (by omega)]; omega
  rw [if_neg (by decide), hw, if_pos (by omega), if_pos (by omega), if_pos r0, if_pos r1, Option.bind_some, Option.bind_some]
  by_cases hc : (rdD s (rdD p 0 0) z_Tile).W = (rdD s (rdD p ((p.length - 1 : Nat) : Int) 0) z_Tile).E
  rotate_left
  · rw [if_pos (by simpa using hc)]; rfl
  rw [if_neg (by simpa using hc)]
  by_cases V : ValidW s w
  rotate_left
  · rw [chk2_no hl V (by omega)]; rfl
  obtain ⟨b, hb, hb2⟩ := chk2 hl V (k := 4999999600 + 400) (by omega)
  rw [hb, Option.bind_some]
  cases b
  · rfl
  have P := hb2.1 rfl
  have hfl := V.fl
  rw [if_neg (by simp; omega)]
  obtain ⟨ok, op, co⟩ := V.all
  obtain ⟨vo, vl⟩ := okVs V
  have hrow := wrow_ok hl V R (k := 4999999600 + 400) (by omega)
  cases c1 : comN 1 w.Values with
  | none => rw [hrow.1 c1]; rfl
  | some den =>
    obtain ⟨m1, m2, m3⟩ := comN_ok w.Values 1 den (by omega) vo c1
    rw [hrow.2 den c1]
    by_cases hf : okFb (lowF (sumP (gS s w den) p) den) = true ∧ okFb (lowF (sumP (gN s w den) p) den) = true
    rotate_left
    · rw [if_neg hf]; rfl
    rw [if_pos hf, Option.bind_some, if_neg (by simp), if_pos (by omega)]
    have h00 : (rdD p (0 : Int) 0).toNat < s.length := by omega
    have h01 : (((rdD p (0 : Int) 0).toNat : Nat) : Int) = rdD p (0 : Int) 0 := by omega
    have kF := (ok.f h00).1
    rw [h01] at kF
    obtain ⟨key, pos⟩ := rows_rel V P R hc c1
    have rel := low_rel (den := den) (by omega) key
    have f1 : ref06_Fits (lowF (sumP (gS s w den) p) den) = some (okFb (lowF (sumP (gS s w den) p) den)) := rfl
    have f2 : ref06_Fits (lowF (sumP (gN s w den) p) den) = some (okFb (lowF (sumP (gN s w den) p) den)) := rfl
    have f3 : ref06_Fits (rdD w.Factors (rdD p (0 : Int) 0) z_Frac) = some (okFb (fr w.Factors (rdD p (0 : Int) 0))) := rfl
    have okS := (okFb_iff _).1 hf.1
    have okN := (okFb_iff _).1 hf.2
    rw [if_pos (by omega), f1, f2, f3, hf.1, hf.2, (okFb_iff _).2 kF, Option.bind_some, if_neg (by decide), Option.bind_some, Option.bind_some, if_neg (by decide), Option.bind_some, Option.bind_some, if_neg (by decide)]
    have bS := okS.1
    have bSd := okS.2
    have bN := okN.1
    have bNd := okN.2
    have bk := kF.1
    have bkd := kF.2
    have e1 : w64 (w64 ((lowF (sumP (gN s w den) p) den).Num * (lowF (sumP (gS s w den) p) den).Den) * (rdD w.Factors (rdD p (0 : Int) 0) z_Frac).Den) = w64 (w64 ((rdD w.Factors (rdD p (0 : Int) 0) z_Frac).Num * (lowF (sumP (gS s w den) p) den).Num) * (lowF (sumP (gN s w den) p) den).Den) := by
      rw [mul3_bd bN (by omega) (by show _ ≤ (fr w.Factors (rdD p (0 : Int) 0)).Den ∧ (fr w.Factors (rdD p (0 : Int) 0)).Den ≤ _; omega), mul3_bd bk bS (by omega)]
      exact rel
    have hpos : (lowF (sumP (gS s w den) p) den).Num > 0 := by
      have h1 : sumP (gS s w den) p / Nat.gcd (sumP (gS s w den) p) den * Nat.gcd (sumP (gS s w den) p) den = sumP (gS s w den) p := Nat.div_mul_cancel (Nat.gcd_dvd_left ..)
      rcases Nat.eq_zero_or_pos (sumP (gS s w den) p / Nat.gcd (sumP (gS s w den) p) den) with h | h
      · rw [h, Nat.zero_mul] at h1; omega
      · show ((sumP (gS s w den) p / Nat.gcd (sumP (gS s w den) p) den : Nat) : Int) > 0
        generalize sumP (gS s w den) p / Nat.gcd (sumP (gS s w den) p) den = z at h
        omega
    rw [if_pos (by rw [Bool.and_eq_true, decide_eq_true_eq, beq_iff_eq]; exact ⟨hpos, e1⟩)]
    rfl
end Gp
