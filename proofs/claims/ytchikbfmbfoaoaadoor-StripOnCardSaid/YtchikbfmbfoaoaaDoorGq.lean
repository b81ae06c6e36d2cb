/- The plain law: what the functions compute answers as the statement says. -/
import Derived.Test.YtchikbfmbfoaoaaDoorGp
import Derived.KernelRfl
set_option linter.unusedVariables false
set_option linter.unusedSimpArgs false
namespace Gq
open Go Gw Gp
/-! ### numbers and lists -/
theorem w64_id {n : Int} (h0 : -9223372036854775808 ≤ n) (h1 : n ≤ 9223372036854775807) : w64 n = n := by
  show IntKind.i64.wrap n = n
  have e : IntKind.i64.wrap n = if (true && decide (n % 18446744073709551616 ≥ 9223372036854775808)) = true then n % 18446744073709551616 - 18446744073709551616 else n % 18446744073709551616 := rfl
  rw [e]
  simp only [Bool.true_and, decide_eq_true_eq]
  split <;> omega
theorem rdD_nat {α : Type} (xs : List α) (i : Nat) (d : α) : rdD xs (i : Int) d = xs.getD i d := by simp [rdD]
theorem rdD_get {α : Type} {xs : List α} {i : Nat} (h : i < xs.length) (d : α) : rdD xs (i : Int) d = xs[i] := by
  simp [rdD, List.getD, List.getElem?_eq_getElem h]
def firstS {α β : Type} (g : Nat → α → Option β) : Nat → List α → Option β
  | _, [] => none
  | i, a :: r => match g i a with
    | some b => some b
    | none => firstS g (i + 1) r
def fin {β : Type} : Option β → Sum β Unit
  | some b => .inl b
  | none => .inr ()
theorem scan {α β : Type} {F : Nat → Int → Option (Sum β Unit)} {xs : List α} {g : Nat → α → Option β}
    (hF : ∀ k (i : Nat), i ≤ xs.length → F (k + 1) (i : Int) = if h : i < xs.length then (match g i xs[i] with | some b => some (.inl b) | none => F k ((i + 1 : Nat) : Int)) else some (.inr ())) :
    ∀ (n k i : Nat), i + n = xs.length → n < k → F k (i : Int) = some (fin (firstS g i (xs.drop i)))
  | 0, k, i, hi, hk => by
    obtain ⟨k, rfl⟩ : ∃ m, k = m + 1 := ⟨k - 1, by omega⟩
    have hi : i = xs.length := by omega
    subst hi
    rw [hF k _ (Nat.le_refl _), dif_neg (Nat.lt_irrefl _), List.drop_length]; rfl
  | n + 1, k, i, hi, hk => by
    obtain ⟨k, rfl⟩ : ∃ m, k = m + 1 := ⟨k - 1, by omega⟩
    have hlt : i < xs.length := by omega
    rw [hF k i (by omega), dif_pos hlt, List.drop_eq_getElem_cons hlt, firstS]
    cases hg : g i xs[i] with
    | some b => rfl
    | none => exact scan hF n k (i + 1) (by omega) (by omega)
end Gq
set_option linter.unusedVariables false
set_option linter.unusedSimpArgs false
namespace Gq
end Gq
namespace Gp
open Gw Gq
/-! ### the tiles of a machine -/
def hd (Y q s : Nat) : Int := ((Y + q * Y + s : Nat) : Int)
end Gp
set_option linter.unusedVariables false
set_option linter.unusedSimpArgs false
namespace Gp
open Gw Gq
/-! the reference -/
/-! equal sets -/
theorem set_loop (a : List Tile) (hl : a.length ≤ 1000000) (k : Nat) (hk : a.length < k) : ref01_SameSet.l0 k 0 a a = some (.inr ()) := by
  have := scan (F := fun k i => ref01_SameSet.l0 k i a a) (xs := a) (g := fun _ _ => (none : Option Bool)) (fun k i hi => by
    show ref01_SameSet.l0 (k + 1) i a a = _
    rw [ref01_SameSet.l0]
    by_cases h : i < a.length
    · have h2 : 0 ≤ (i : Int) ∧ (i : Int) < (a.length : Int) := by omega
      rw [dif_pos h, if_pos (by simpa using h), if_pos h2, if_pos h2, if_neg (by simp), w64_id (by omega) (by omega)]; rfl
    · rw [dif_neg h, if_neg (by simpa using h)]) a.length k 0 (by simp) hk
  have hn : ∀ (l : List Tile) (i : Nat), firstS (fun _ _ => (none : Option Bool)) i l = none := by
    intro l
    induction l with
    | nil => intro i; rfl
    | cons x r ih => intro i; exact ih (i + 1)
  simpa [hn, fin] using this
theorem sameset_refl (a : List Tile) (hl : a.length ≤ 1000000) (k : Nat) (hk : a.length < k) : ref01_SameSet k a a = some true := by
  unfold ref01_SameSet
  rw [if_neg (by simp), set_loop a hl k hk]; rfl
end Gp
set_option linter.unusedVariables false
set_option linter.unusedSimpArgs false
namespace Gq
end Gq
namespace Gp
open Gw Gq
/-! ### where the tiles of a machine lie -/
end Gp
set_option linter.unusedVariables false
set_option linter.unusedSimpArgs false
namespace Gp
open Gw Gq
/-! ### the tile that shows a cell of a step -/
theorem Tile.ext' {a b : Tile} (h1 : a.N = b.N) (h2 : a.E = b.E) (h3 : a.S = b.S) (h4 : a.W = b.W) : a = b := by
  cases a; cases b; simp only at h1 h2 h3 h4; subst h1 h2 h3 h4; rfl
end Gp
set_option linter.unusedVariables false
set_option linter.unusedSimpArgs false
namespace Gq
theorem loop_all {σ ρ τ : Type} {F : Nat → Int → σ → Option (Sum ρ τ)} {S : Nat → σ} {b : Nat → Bool} {n K : Nat} {r : ρ} {e : τ} (hs : ∀ k i, K ≤ k → i < n → F (k + 1) (i : Int) (S i) = if b i = true then F k ((i + 1 : Nat) : Int) (S (i + 1)) else some (.inl r)) (he : ∀ k, F (k + 1) (n : Int) (S n) = some (.inr e)) :
    ∀ k, n + K < k → F k 0 (S 0) = some (if (List.range n).all b = true then .inr e else .inl r) := by
  have key : ∀ d i k, i + d = n → d + K < k → F k (i : Int) (S i) = some (if (List.range' i d).all b = true then .inr e else .inl r) := by
    intro d
    induction d with
    | zero =>
      intro i k hi hk
      obtain ⟨k, rfl⟩ : ∃ m, k = m + 1 := ⟨k - 1, by omega⟩
      have : i = n := by omega
      subst this; rw [he]; rfl
    | succ d ih =>
      intro i k hi hk
      obtain ⟨k, rfl⟩ : ∃ m, k = m + 1 := ⟨k - 1, by omega⟩
      rw [hs k i (by omega) (by omega), List.range'_succ, List.all_cons]
      cases hb : b i
      · rfl
      · rw [if_pos rfl, ih (i + 1) k (by omega) (by omega)]; rfl
  intro k hk
  rw [List.range_eq_range']
  exact key n 0 k (by omega) hk
theorem firstS_ge' {α : Type} {p : α → Bool} : ∀ (xs : List α) (i : Nat), (match firstS (fun i a => if p a = true then none else some (i : Int)) i xs with
    | some x => decide (0 ≤ x)
    | none => false) = !xs.all p
  | [], i => rfl
  | a :: r, i => by
    rw [firstS]
    cases h : p a
    · simp [h]
    · simp only [if_true, List.all_cons, h, Bool.true_and]
      exact firstS_ge' r (i + 1)
end Gq
namespace Gp
open Gw Gq
/-! ### sets of tiles and patterns -/
def inCol (c : Int) : Bool := decide (0 ≤ c ∧ c < 1000)
def colB (t : Tile) : Bool := inCol t.N && inCol t.E && inCol t.S && inCol t.W
theorem idx_col (xs : List Int) (hl : xs.length ≤ 1000000) (k : Nat) (hk : xs.length < k) :
    slices_IndexFunc_int_int_with_tile_colour_1.l0 k 0 xs = some (fin (firstS (fun i a => if inCol a = true then none else some (i : Int)) 0 xs)) := by
  have := scan (F := fun k i => slices_IndexFunc_int_int_with_tile_colour_1.l0 k i xs) (xs := xs) (g := fun i a => if inCol a = true then none else some (i : Int)) (fun k i hi => by
    show slices_IndexFunc_int_int_with_tile_colour_1.l0 (k + 1) i xs = _
    rw [slices_IndexFunc_int_int_with_tile_colour_1.l0]
    by_cases h : i < xs.length
    · have h' : (i : Int) < (xs.length : Int) := by omega
      have h2 : 0 ≤ (i : Int) ∧ (i : Int) < (xs.length : Int) := by omega
      rw [dif_pos h, if_pos (by simpa using h'), if_pos h2, rdD_get h, tile_colour_1, w64_id (by omega) (by omega)]
      by_cases hb : 0 ≤ xs[i] ∧ xs[i] < 1000
      · have h3 : ¬ (xs[i] < 0 ∨ 1000 ≤ xs[i]) := by omega
        simp [inCol, hb]
        intro hh; exact absurd hh h3
      · have h3 : (xs[i] < 0 ∨ 1000 ≤ xs[i]) := by omega
        simp [inCol, hb, h3]
    · have h' : ¬ (i : Int) < (xs.length : Int) := by omega
      rw [dif_neg h, if_neg (by simpa using h')]) xs.length k 0 (by simp) hk
  simpa using this
theorem colour_eq (xs : List Int) (hl : xs.length ≤ 1000000) (k : Nat) (hk : xs.length < k) : tile_colour k xs = some (xs.all inCol) := by
  unfold tile_colour slices_ContainsFunc_int_int_with_tile_colour_1 slices_IndexFunc_int_int_with_tile_colour_1
  rw [idx_col xs hl k hk]
  have := firstS_ge' (p := inCol) xs 0
  cases hf : firstS (fun i a => if inCol a = true then none else some (i : Int)) 0 xs <;> rw [hf] at this <;> cases ha : xs.all inCol <;> rw [ha] at this <;> simp [fin, sumb] at this ⊢
  · exact this
  · exact this
def metS (set : List Tile) (i : Nat) : List (Tile × Bool) := (set.take i).map fun t => (t, true)
theorem mget_met (t : Tile) : ∀ l : List Tile, mget t false (l.map fun t => (t, true)) = decide (t ∈ l)
  | [] => rfl
  | a :: r => by
    simp only [List.map_cons, mget]
    by_cases h : t = a
    · simp [h]
    · rw [if_neg h, mget_met t r]; simp [h]
theorem mput_met (t : Tile) : ∀ l : List Tile, t ∉ l → mput t true (l.map fun t => (t, true)) = (l.map fun t => (t, true)) ++ [(t, true)]
  | [], _ => rfl
  | a :: r, h => by
    simp only [List.mem_cons, not_or] at h
    simp only [List.map_cons, mput, if_neg h.1, mput_met t r h.2, List.cons_append]
def newB (set : List Tile) (i : Nat) : Bool := !decide (set.getD i z_Tile ∈ set.take i) && colB (set.getD i z_Tile)
def validT (set : List Tile) : Bool := decide (set.length ≤ 1000) && (List.range set.length).all (newB set)
theorem tile_valid (set : List Tile) {k : Nat} (hk : 1006 ≤ k) (hl : set.length ≤ 9223372036854775807) : tile_Valid k set = some (validT set) := by
  unfold tile_Valid validT
  by_cases hb : set.length ≤ 1000
  · rw [if_neg (by simp; omega)]
    have := loop_all (F := fun k i (m : List (Tile × Bool)) => tile_Valid.l0 k m i set) (S := metS set) (b := newB set) (n := set.length) (K := 5) (r := false) (e := ()) (fun k i hk hi => by
      show tile_Valid.l0 (k + 1) (metS set i) i set = if newB set i = true then tile_Valid.l0 k (metS set (i + 1)) ((i + 1 : Nat) : Int) set else _
      rw [tile_Valid.l0, if_pos (by simpa using hi), if_pos (by omega), rdD_nat, metS, mget_met]
      have ht : set.getD i z_Tile = set[i] := by simp [List.getElem?_eq_getElem hi]
      unfold newB
      by_cases hm : set.getD i z_Tile ∈ set.take i
      · rw [if_pos (by simpa using hm), show decide (set.getD i z_Tile ∈ set.take i) = true from decide_eq_true hm]; rfl
      · rw [if_neg (by simpa using hm), colour_eq _ (by simp) k (by simp; omega), Option.bind_some, Option.bind_some]
        have hc : ([(set.getD i z_Tile).N, (set.getD i z_Tile).E, (set.getD i z_Tile).S, (set.getD i z_Tile).W].all inCol) = colB (set.getD i z_Tile) := by simp [colB, Bool.and_assoc]
        rw [hc]
        cases hcb : colB (set.getD i z_Tile)
        · simp
        · rw [mput_met _ _ hm, w64_id (by omega) (by omega)]
          simp only [hm, Bool.not_true, Bool.false_eq_true, if_false, decide_false, Bool.not_false, Bool.and_self, if_true]
          unfold metS
          rw [List.take_add_one, List.map_append, List.getElem?_eq_getElem hi, ht]; rfl) (fun k => by
      show tile_Valid.l0 (k + 1) (metS set set.length) set.length set = _
      rw [tile_Valid.l0, if_neg (by simp)]) k (by omega)
    have h0 : tile_Valid.l0 k [] 0 set = some (if (List.range set.length).all (newB set) = true then .inr () else .inl false) := this
    rw [h0]
    cases (List.range set.length).all (newB set) <;> simp [sumb, hb]
  · rw [if_pos (by simp; omega)]; simp [hb]
end Gp
set_option linter.unusedVariables false
set_option linter.unusedSimpArgs false
namespace Gp
open Gw Gq
/-! ### the pictures are patterns of the tiles -/
end Gp
set_option linter.unusedVariables false
set_option linter.unusedSimpArgs false
namespace Gq
end Gq
namespace Gp
open Gw Gq
/-! ### the patterns of the statements' own reference -/
end Gp
set_option linter.unusedVariables false
set_option linter.unusedSimpArgs false
namespace Gp
open Gw Gq
end Gp
set_option linter.unusedVariables false
set_option linter.unusedSimpArgs false
namespace Gp
open Gw Gq
/-! ### a torus, repeated -/
end Gp
set_option linter.unusedVariables false
set_option linter.unusedSimpArgs false
namespace Gp
open Gw Gq
/-! ### the first layer's reference -/
theorem colour01 (c : Int) : ref01_colour c = some (inCol c) := by
  unfold ref01_colour inCol
  by_cases h : 0 ≤ c ∧ c < 1000
  · simp [h]
  · rw [decide_eq_false h]
    congr 1
    cases h1 : decide (c ≥ 0)
    · rfl
    · have : ¬ c < 1000 := fun h2 => h ⟨by simpa using h1, h2⟩
      simp [this]
theorem index01 {set : List Tile} (hl : set.length ≤ 1000000) (t : Tile) {k : Nat} (hk : set.length < k) : ∃ r : Int, ref01_Index k set t = some r ∧ decide (r ≥ 0) = decide (t ∈ set) := by
  have := scan (F := fun k i => ref01_Index.l0 k i set t) (xs := set) (g := fun i a => if a = t then some (i : Int) else none) (fun k i hi => by
    show ref01_Index.l0 (k + 1) i set t = _
    rw [ref01_Index.l0]
    by_cases h : i < set.length
    · have h2 : 0 ≤ (i : Int) ∧ (i : Int) < (set.length : Int) := by omega
      rw [dif_pos h, if_pos (by simpa using h), if_pos h2, rdD_get h, w64_id (by omega) (by omega)]
      by_cases hb : set[i] = t
      · subst hb; simp
      · have : ((set[i].N == t.N) && ((set[i].E == t.E) && ((set[i].S == t.S) && (set[i].W == t.W)))) = false := by
          cases hc : ((set[i].N == t.N) && ((set[i].E == t.E) && ((set[i].S == t.S) && (set[i].W == t.W))))
          · rfl
          · simp only [Bool.and_eq_true, beq_iff_eq] at hc
            exact absurd (Tile.ext' hc.1 hc.2.1 hc.2.2.1 hc.2.2.2) hb
        rw [this, if_neg hb]; rfl
    · rw [dif_neg h, if_neg (by simpa using h)]) set.length k 0 (by simp) hk
  have h0 : ref01_Index.l0 k 0 set t = some (fin (firstS (fun i a => if a = t then some (i : Int) else none) 0 (set.drop 0))) := this
  rw [List.drop_zero] at h0
  have key : ∀ (l : List Tile) (i : Nat), match firstS (fun i a => if a = t then some (i : Int) else none) i l with
      | some x => decide (x ≥ 0) = decide (t ∈ l)
      | none => decide (t ∈ l) = false := by
    intro l
    induction l with
    | nil => intro i; simp [firstS]
    | cons a r ih =>
      intro i
      rw [firstS]
      by_cases ha : a = t
      · subst ha; simp
      · have hne : ¬ t = a := fun e => ha e.symm
        rw [if_neg ha]
        have := ih (i + 1)
        cases hf : firstS (fun i a => if a = t then some (i : Int) else none) (i + 1) r with
        | none => rw [hf] at this; simp only [List.mem_cons, hne, false_or]; exact this
        | some x => rw [hf] at this; simp only [List.mem_cons, hne, false_or]; exact this
  unfold ref01_Index
  rw [h0]
  have hk2 := key set 0
  cases hf : firstS (fun i a => if a = t then some (i : Int) else none) 0 set with
  | none => rw [hf] at hk2; exact ⟨-1, rfl, by rw [hk2]; rfl⟩
  | some x => rw [hf] at hk2; exact ⟨x, rfl, hk2⟩
theorem valid01 (set : List Tile) {k : Nat} (hk : 2002 < k) (hl : set.length ≤ 9223372036854775807) : ref01_Valid k set = some (validT set) := by
  unfold ref01_Valid validT
  by_cases hb : set.length ≤ 1000
  · rw [if_neg (by simp; omega)]
    have := loop_all (F := fun k i (_ : Unit) => ref01_Valid.l0 k i set) (S := fun _ => ()) (b := newB set) (n := set.length) (K := 1001) (r := false) (e := ()) (fun k i hk hi => by
      show ref01_Valid.l0 (k + 1) i set = if newB set i = true then ref01_Valid.l0 k ((i + 1 : Nat) : Int) set else _
      have hcut : cut set (0 : Int) (i : Int) = set.take i := by unfold cut; simp
      obtain ⟨r, hr, hd⟩ := index01 (set := set.take i) (by rw [List.length_take]; omega) (set.getD i z_Tile) (k := k) (by rw [List.length_take]; omega)
      rw [ref01_Valid.l0, if_pos (by simpa using hi), if_pos (by omega)]
      simp only [rdD_nat, colour01, Option.bind_some, hcut]
      rw [if_pos (⟨by omega, by omega, by omega⟩ : 0 ≤ (0 : Int) ∧ (0 : Int) ≤ (i : Int) ∧ (i : Int) ≤ (set.length : Int)), hr, w64_id (by omega) (by omega)]
      simp only [Option.bind_some, hd]
      unfold newB colB
      cases inCol (set.getD i z_Tile).N
      · simp
      · cases inCol (set.getD i z_Tile).E
        · simp
        · cases inCol (set.getD i z_Tile).S
          · simp
          · cases inCol (set.getD i z_Tile).W
            · simp
            · cases decide (set.getD i z_Tile ∈ set.take i) <;> simp) (fun k => by
      show ref01_Valid.l0 (k + 1) set.length set = _
      rw [ref01_Valid.l0, if_neg (by simp)]) k (by omega)
    have h0 : ref01_Valid.l0 k 0 set = some (if (List.range set.length).all (newB set) = true then .inr () else .inl false) := this
    rw [h0]
    cases (List.range set.length).all (newB set) <;> simp [sumb, hb]
  · rw [if_pos (by simp; omega)]; simp [hb]
end Gp
set_option linter.unusedVariables false
set_option linter.unusedSimpArgs false
namespace Gp
open Gw Gq
/-! ### grids: lists of rows -/
def grid (w h : Nat) (g : Nat → Nat → Int) : List Int := (List.range h).flatMap fun y => (List.range w).map (g y)
/-! ### stores into a list -/
def sets (l : List Int) (q : List (Nat × Int)) : List Int := q.foldl (fun l p => l.set p.1 p.2) l
/-! ### patterns that have the form of one -/
/-! ### the changed patterns -/
end Gp
set_option linter.unusedVariables false
set_option linter.unusedSimpArgs false
namespace Gp
open Gw Gq
/-! ### cuts -/
/-! ### patterns, repeated -/
/-! ### what is equal -/
end Gp
set_option linter.unusedVariables false
set_option linter.unusedSimpArgs false
namespace Gp
open Gw Gq
/-! ### changed sets -/
structure Chg (f : Tile → Tile) : Prop where
  inj : ∀ a b, f a = f b → a = b
  col : ∀ t, colB (f t) = colB t
theorem getD_map (f : Tile → Tile) {s : List Tile} {i : Nat} (h : i < s.length) : (s.map f).getD i z_Tile = f (s.getD i z_Tile) := by simp [List.getElem?_eq_getElem h]
theorem Chg.valid {f : Tile → Tile} (c : Chg f) {s : List Tile} (hv : validT s = true) : validT (s.map f) = true := by
  unfold validT at hv ⊢
  simp only [Bool.and_eq_true, decide_eq_true_eq, List.all_eq_true, List.mem_range, List.length_map] at hv ⊢
  refine ⟨hv.1, fun i hi => ?_⟩
  have := hv.2 i hi
  unfold newB at this ⊢
  rw [getD_map f hi, ← List.map_take, c.col]
  simp only [Bool.and_eq_true, Bool.not_eq_true', decide_eq_false_iff_not] at this ⊢
  refine ⟨fun hm => this.1 ?_, this.2⟩
  obtain ⟨a, ha, he⟩ := List.mem_map.1 hm
  rw [← c.inj _ _ he]; exact ha
/-! ### how the tiles of a grid meet -/
def JP (W H : Nat) (round : Bool) (T : Nat → Nat → Tile) : Prop :=
  (∀ y x, y < H → x < W → (x + 1 < W ∨ round = true) → (T y x).E = (T y ((x + 1) % W)).W) ∧ (∀ y x, y < H → x < W → (y + 1 < H ∨ round = true) → (T y x).N = (T ((y + 1) % H) x).S)
theorem JP.congr {W H : Nat} {round : Bool} {T T' : Nat → Nat → Tile} (he : ∀ y x, y < H → x < W → T y x = T' y x) (h : JP W H round T) : JP W H round T' := by
  refine ⟨fun y x hy hx hr => ?_, fun y x hy hx hr => ?_⟩
  · rw [← he y x hy hx, ← he y _ hy (Nat.mod_lt _ (by omega))]; exact h.1 y x hy hx hr
  · rw [← he y x hy hx, ← he _ x (Nat.mod_lt _ (by omega)) hx]; exact h.2 y x hy hx hr
def TT (s : List Tile) (c : Nat → Nat → Int) (y x : Nat) : Tile := s.getD (c y x).toNat z_Tile
structure GOK (s : List Tile) (W H : Nat) (c : Nat → Nat → Int) (whole : Bool) : Prop where
  valid : validT s = true
  dW : 1 ≤ W ∧ W ≤ 40000
  dH : 1 ≤ H ∧ H ≤ 40000
  wh : H * W ≤ 40000
  cel : ∀ y x, y < H → x < W → 0 ≤ c y x ∧ c y x < (s.length : Int)
  fits : JP W H false (TT s c)
  round : whole = true ↔ JP W H true (TT s c)
theorem valid_len {s : List Tile} (hv : validT s = true) : s.length ≤ 1000 := by unfold validT at hv; simp only [Bool.and_eq_true, decide_eq_true_eq] at hv; exact hv.1
theorem GOK.congr {s : List Tile} {W H : Nat} {c c' : Nat → Nat → Int} {whole : Bool} (g : GOK s W H c whole) (he : ∀ y x, y < H → x < W → c y x = c' y x) : GOK s W H c' whole := by
  have ht : ∀ y x, y < H → x < W → TT s c y x = TT s c' y x := fun y x hy hx => by unfold TT; rw [he y x hy hx]
  exact ⟨g.valid, g.dW, g.dH, g.wh, fun y x hy hx => by rw [← he y x hy hx]; exact g.cel y x hy hx, g.fits.congr ht, g.round.trans ⟨fun h => h.congr ht, fun h => h.congr (fun y x hy hx => (ht y x hy hx).symm)⟩⟩
/-! mirrored -/
end Gp
set_option linter.unusedVariables false
set_option linter.unusedSimpArgs false
namespace Gp
open Gw Gq
theorem awake04_ok (k : Nat) : law04_awake (k + 1300) = some true := by kernel_rfl
/-! numbers of pairs -/
theorem mget_put {κ ν : Type} [DecidableEq κ] (x y : κ) (z v : ν) : ∀ l : List (κ × ν), mget x z (mput y v l) = if x = y then v else mget x z l
  | [] => by simp [mput, mget]
  | p :: r => by
    simp only [mput]
    by_cases h : y = p.1
    · rw [if_pos h]
      simp only [mget]
      by_cases hx : x = y
      · rw [if_pos hx, if_pos hx]
      · rw [if_neg hx, if_neg hx, if_neg (fun e => hx (e.trans h.symm))]
    · rw [if_neg h]
      simp only [mget]
      by_cases hx : x = p.1
      · rw [if_pos hx, if_pos hx, if_neg (fun e => h (e.symm.trans hx))]
      · rw [if_neg hx, if_neg hx]; exact mget_put x y z v r
def insP (p : A2_Int) (P : List A2_Int) : List A2_Int := if p ∈ P then P else P ++ [p]
def ixP (p : A2_Int) (P : List A2_Int) : Nat := P.findIdx fun q => decide (q = p)
def numL : Nat → List A2_Int → List (A2_Int × Int)
  | _, [] => []
  | i, p :: r => (p, (i : Int)) :: numL (i + 1) r
theorem numL_len : ∀ (P : List A2_Int) (i : Nat), (numL i P).length = P.length
  | [], i => rfl
  | p :: r, i => by simp [numL, numL_len r]
theorem mhas_num (p : A2_Int) : ∀ (P : List A2_Int) (i : Nat), mhas p (numL i P) = decide (p ∈ P)
  | [], i => by simp [numL, mhas]
  | q :: r, i => by
    simp only [numL, mhas, mhas_num p r]
    by_cases h : p = q
    · simp [h]
    · simp [h]
theorem mput_num (p : A2_Int) : ∀ (P : List A2_Int) (i : Nat), p ∉ P → mput p ((i + P.length : Nat) : Int) (numL i P) = numL i (P ++ [p])
  | [], i, _ => by simp [numL, mput]
  | q :: r, i, h => by
    have h1 : p ≠ q := fun e => h (by simp [e])
    have h2 : p ∉ r := fun e => h (List.mem_cons_of_mem _ e)
    simp only [numL, mput, List.cons_append]
    rw [if_neg h1, ← mput_num p r (i + 1) h2, List.length_cons, show i + (r.length + 1) = i + 1 + r.length by omega]
theorem mget_num (p : A2_Int) (z : Int) : ∀ (P : List A2_Int) (i : Nat), p ∈ P → mget p z (numL i P) = ((i + ixP p P : Nat) : Int)
  | q :: r, i, h => by
    simp only [numL, mget, ixP, List.findIdx_cons]
    by_cases e : p = q
    · rw [if_pos e]; simp [e]
    · have h2 : p ∈ r := by rcases List.mem_cons.1 h with h | h; exact absurd h e; exact h
      rw [if_neg e, mget_num p z r (i + 1) h2, decide_eq_false (fun x => e x.symm)]
      simp only [cond_false, ixP]; omega
theorem mem_insP (p : A2_Int) (P : List A2_Int) : p ∈ insP p P := by
  unfold insP; split
  · assumption
  · simp
theorem insP_len (p : A2_Int) (P : List A2_Int) : P.length ≤ (insP p P).length ∧ (insP p P).length ≤ P.length + 1 := by
  unfold insP; split <;> simp
theorem on1_eq (x y : Int) (P : List A2_Int) : strip_On_1 x y (numL 0 P) = some (((ixP ⟨x, y⟩ (insP ⟨x, y⟩ P) : Nat) : Int), numL 0 (insP ⟨x, y⟩ P)) := by
  have key : (if (!(mhas (A2_Int.mk x y) (numL 0 P))) = true then some (mput (A2_Int.mk x y) ((numL 0 P).length : Int) (numL 0 P)) else some (numL 0 P)) = some (numL 0 (insP ⟨x, y⟩ P)) := by
    rw [mhas_num, numL_len]
    unfold insP
    by_cases h : (⟨x, y⟩ : A2_Int) ∈ P
    · simp [h]
    · have := mput_num ⟨x, y⟩ P 0 h
      rw [Nat.zero_add] at this
      simp [h, this]
  unfold strip_On_1
  rw [key, Option.bind_some, mget_num _ _ _ _ (mem_insP _ _), Nat.zero_add]
theorem a2_beq (a b : A2_Int) : (a.e0 == b.e0 && (a.e1 == b.e1)) = decide (a = b) := by
  cases a; cases b
  rw [Bool.eq_iff_iff, decide_eq_true_eq]
  simp
theorem number_l0 (p : A2_Int) (P : List A2_Int) (hP : P.length ≤ 1000000) : ∀ (d x k : Nat), x + d = P.length → (∀ (j : Nat) (h : j < P.length), j < x → P[j] ≠ p) → d < k →
    ref04_number.l0 k x P p = some (if p ∈ P then .inl (((ixP p P : Nat) : Int), P) else .inr ())
  | 0, x, k, e, hx, hk => by
    obtain ⟨k, rfl⟩ : ∃ m, k = m + 1 := ⟨k - 1, by omega⟩
    have hn : p ∉ P := fun h => by
      obtain ⟨j, hj, e2⟩ := List.getElem_of_mem h
      exact hx j hj (by omega) e2
    rw [ref04_number.l0, if_neg (by simp; omega), if_neg hn]
  | d + 1, x, k, e, hx, hk => by
    obtain ⟨k, rfl⟩ : ∃ m, k = m + 1 := ⟨k - 1, by omega⟩
    have hlt : x < P.length := by omega
    have hwi : w64 ((x : Int) + 1) = ((x + 1 : Nat) : Int) := by rw [w64_id (by omega) (by omega)]; rfl
    rw [ref04_number.l0, if_pos (by simpa using hlt), if_pos (by omega), rdD_get hlt, a2_beq, hwi]
    by_cases h : P[x] = p
    · have hm : p ∈ P := by rw [← h]; exact List.getElem_mem hlt
      have hix : ixP p P = x := by
        unfold ixP
        rw [List.findIdx_eq hlt]
        exact ⟨by simpa using h, fun j hj => by simpa using hx j (by omega) hj⟩
      rw [if_pos (decide_eq_true h), if_pos hm, hix]
    · rw [if_neg (by simpa using h)]
      exact number_l0 p P hP d (x + 1) k (by omega) (fun j hj hjx => by
        rcases Nat.lt_or_ge j x with h1 | h1
        · exact hx j hj h1
        · have : j = x := by omega
          subst this; exact h) (by omega)
theorem number_eq (p : A2_Int) (P : List A2_Int) (hP : P.length ≤ 1000000) {k : Nat} (hk : P.length < k) : ref04_number k P p = some (((ixP p (insP p P) : Nat) : Int), insP p P) := by
  have h := number_l0 p P hP P.length 0 k (by omega) (fun j h h2 => by omega) hk
  have h : ref04_number.l0 k 0 P p = _ := h
  unfold ref04_number insP
  rw [h]
  by_cases hm : p ∈ P
  · rw [if_pos hm, if_pos hm]; rfl
  · rw [if_neg hm, if_neg hm, Option.bind_some]
    have hix : ixP p (P ++ [p]) = P.length := by
      unfold ixP
      rw [List.findIdx_eq (by simp)]
      refine ⟨by simp, fun j hj => ?_⟩
      rw [List.getElem_append_left hj]
      exact decide_eq_false fun e => hm (e ▸ List.getElem_mem hj)
    show (if P.length + [p].length ≤ 100000000000 then some ((P.length : Int), P ++ [p]) else none) = _
    rw [if_pos (by simp; omega), hix]
end Gp
set_option linter.unusedVariables false
set_option linter.unusedSimpArgs false
namespace Gp
open Gw Gq
structure OnS where
  P : List A2_Int
  out : List Tile
  of_ : List A2_Int
def onStep (a b : List Tile) (i j : Nat) (s : OnS) : Option OnS :=
  if (rdD a (i : Int) z_Tile).N ≠ (rdD b (j : Int) z_Tile).S then some s else
    if (⟨(rdD b (j : Int) z_Tile).N, ((ixP ⟨(rdD a (i : Int) z_Tile).E, (rdD b (j : Int) z_Tile).E⟩ (insP ⟨(rdD a (i : Int) z_Tile).E, (rdD b (j : Int) z_Tile).E⟩ s.P) : Nat) : Int), (rdD a (i : Int) z_Tile).S,
      ((ixP ⟨(rdD a (i : Int) z_Tile).W, (rdD b (j : Int) z_Tile).W⟩ (insP ⟨(rdD a (i : Int) z_Tile).W, (rdD b (j : Int) z_Tile).W⟩ (insP ⟨(rdD a (i : Int) z_Tile).E, (rdD b (j : Int) z_Tile).E⟩ s.P)) : Nat) : Int)⟩ : Tile) ∈ s.out
    then some ⟨insP ⟨(rdD a (i : Int) z_Tile).W, (rdD b (j : Int) z_Tile).W⟩ (insP ⟨(rdD a (i : Int) z_Tile).E, (rdD b (j : Int) z_Tile).E⟩ s.P), s.out, s.of_⟩
    else if s.out.length + 1 > 1000 ∨ (insP ⟨(rdD a (i : Int) z_Tile).W, (rdD b (j : Int) z_Tile).W⟩ (insP ⟨(rdD a (i : Int) z_Tile).E, (rdD b (j : Int) z_Tile).E⟩ s.P)).length > 1000 then none
    else some ⟨insP ⟨(rdD a (i : Int) z_Tile).W, (rdD b (j : Int) z_Tile).W⟩ (insP ⟨(rdD a (i : Int) z_Tile).E, (rdD b (j : Int) z_Tile).E⟩ s.P), s.out ++ [⟨(rdD b (j : Int) z_Tile).N, ((ixP ⟨(rdD a (i : Int) z_Tile).E, (rdD b (j : Int) z_Tile).E⟩ (insP ⟨(rdD a (i : Int) z_Tile).E, (rdD b (j : Int) z_Tile).E⟩ s.P) : Nat) : Int), (rdD a (i : Int) z_Tile).S,
      ((ixP ⟨(rdD a (i : Int) z_Tile).W, (rdD b (j : Int) z_Tile).W⟩ (insP ⟨(rdD a (i : Int) z_Tile).W, (rdD b (j : Int) z_Tile).W⟩ (insP ⟨(rdD a (i : Int) z_Tile).E, (rdD b (j : Int) z_Tile).E⟩ s.P)) : Nat) : Int)⟩], s.of_ ++ [⟨(i : Int), (j : Int)⟩]⟩
def onRow (a b : List Tile) (i : Nat) : Nat → Nat → OnS → Option OnS
  | 0, _, s => some s
  | d + 1, j, s => (onStep a b i j s).bind (onRow a b i d (j + 1))
def onAll (a b : List Tile) : Nat → Nat → OnS → Option OnS
  | 0, _, s => some s
  | d + 1, i, s => (onRow a b i b.length 0 s).bind (onAll a b d (i + 1))
structure OnI (s : OnS) (m : Nat) : Prop where
  out : s.out.length ≤ 1000
  of_ : s.of_.length = s.out.length
  P : s.P.length ≤ m
theorem onStep_inv {a b : List Tile} {i j : Nat} {s s' : OnS} {m : Nat} (h : OnI s m) (e : onStep a b i j s = some s') : OnI s' (m + 2) := by
  have h1 := h.out; have h2 := h.of_; have h3 := h.P
  unfold onStep at e
  split at e
  · injection e with e; subst e; exact ⟨h1, h2, by omega⟩
  · split at e
    · injection e with e; subst e
      exact ⟨h1, h2, by
        have ha := (insP_len ⟨(rdD a (i : Int) z_Tile).E, (rdD b (j : Int) z_Tile).E⟩ s.P).2
        have hb := (insP_len ⟨(rdD a (i : Int) z_Tile).W, (rdD b (j : Int) z_Tile).W⟩ (insP ⟨(rdD a (i : Int) z_Tile).E, (rdD b (j : Int) z_Tile).E⟩ s.P)).2
        show (insP _ (insP _ s.P)).length ≤ m + 2
        omega⟩
    · split at e
      · cases e
      · rename_i hg
        injection e with e; subst e
        exact ⟨by simp; omega, by simp; omega, by
          have ha := (insP_len ⟨(rdD a (i : Int) z_Tile).E, (rdD b (j : Int) z_Tile).E⟩ s.P).2
          have hb := (insP_len ⟨(rdD a (i : Int) z_Tile).W, (rdD b (j : Int) z_Tile).W⟩ (insP ⟨(rdD a (i : Int) z_Tile).E, (rdD b (j : Int) z_Tile).E⟩ s.P)).2
          show (insP _ (insP _ s.P)).length ≤ m + 2
          omega⟩
theorem onRow_inv {a b : List Tile} {i : Nat} : ∀ (d j : Nat) {s s' : OnS} {m : Nat}, OnI s m → onRow a b i d j s = some s' → OnI s' (m + 2 * d)
  | 0, j, s, s', m, h, e => by injection e with e; subst e; exact h
  | d + 1, j, s, s', m, h, e => by
    obtain ⟨s1, h1, h2⟩ := bind_some (show (onStep a b i j s).bind (onRow a b i d (j + 1)) = some s' from e)
    have := onRow_inv d (j + 1) (onStep_inv h h1) h2
    rwa [show m + 2 + 2 * d = m + 2 * (d + 1) by omega] at this
def MetOK (met : List (Tile × Bool)) (s : OnS) : Prop := ∀ t, mget t false met = decide (t ∈ s.out)
theorem onP_one {a b : List Tile} {i j : Nat} (hi : i < a.length) (hj : j < b.length) (hb : b.length ≤ 1000) {s : OnS} {m : Nat} (h : OnI s m) {met : List (Tile × Bool)} (hm : MetOK met s) (k : Nat) :
    (match onStep a b i j s with
      | none => strip_On.l1 (k + 1) (numL 0 s.P) s.out s.of_ met j a b i = some (.inl ([], [], 4))
      | some s' => ∃ met', MetOK met' s' ∧ strip_On.l1 (k + 1) (numL 0 s.P) s.out s.of_ met j a b i = strip_On.l1 k (numL 0 s'.P) s'.out s'.of_ met' ((j + 1 : Nat) : Int) a b i) := by
  have h1 := h.out; have h2 := h.of_
  have hwi : w64 ((j : Int) + 1) = ((j + 1 : Nat) : Int) := by rw [w64_id (by omega) (by omega)]; rfl
  rw [strip_On.l1, if_pos (by simpa using hj), if_pos (show 0 ≤ (j : Int) ∧ (j : Int) < (b.length : Int) by omega), hwi]
  unfold onStep
  by_cases hN : (rdD a (i : Int) z_Tile).N = (rdD b (j : Int) z_Tile).S
  rotate_left
  · rw [if_pos hN]
    refine ⟨met, hm, ?_⟩
    rw [if_pos (by simpa using hN)]; rfl
  have hn1 : ¬ ((rdD a (i : Int) z_Tile).N ≠ (rdD b (j : Int) z_Tile).S) := by simpa using hN
  have hn2 : ¬ (((rdD a (i : Int) z_Tile).N != (rdD b (j : Int) z_Tile).S) = true) := by simpa using hN
  rw [if_neg hn1, if_neg hn2]
  simp only [on1_eq, Option.bind_some]
  by_cases ht : (⟨(rdD b (j : Int) z_Tile).N, ((ixP ⟨(rdD a (i : Int) z_Tile).E, (rdD b (j : Int) z_Tile).E⟩ (insP ⟨(rdD a (i : Int) z_Tile).E, (rdD b (j : Int) z_Tile).E⟩ s.P) : Nat) : Int), (rdD a (i : Int) z_Tile).S,
      ((ixP ⟨(rdD a (i : Int) z_Tile).W, (rdD b (j : Int) z_Tile).W⟩ (insP ⟨(rdD a (i : Int) z_Tile).W, (rdD b (j : Int) z_Tile).W⟩ (insP ⟨(rdD a (i : Int) z_Tile).E, (rdD b (j : Int) z_Tile).E⟩ s.P)) : Nat) : Int)⟩ : Tile) ∈ s.out
  · rw [if_pos ht]
    refine ⟨met, hm, ?_⟩
    rw [hm, if_pos (decide_eq_true ht)]; rfl
  · rw [if_neg ht, hm, decide_eq_false ht, if_neg (show ¬ (false = true) by simp), if_pos (show s.out.length + [_].length ≤ 100000000000 by simp; omega), if_pos (show s.of_.length + [_].length ≤ 100000000000 by simp; omega)]
    by_cases hg : s.out.length + 1 > 1000 ∨ (insP ⟨(rdD a (i : Int) z_Tile).W, (rdD b (j : Int) z_Tile).W⟩ (insP ⟨(rdD a (i : Int) z_Tile).E, (rdD b (j : Int) z_Tile).E⟩ s.P)).length > 1000
    · rw [if_pos hg, if_pos (by rw [numL_len]; simp; omega)]; rfl
    · rw [if_neg hg, if_neg (by rw [numL_len]; simp; omega)]
      refine ⟨mput _ true met, fun t => ?_, rfl⟩
      rw [mget_put, hm t]
      by_cases e : t = (⟨(rdD b (j : Int) z_Tile).N, ((ixP ⟨(rdD a (i : Int) z_Tile).E, (rdD b (j : Int) z_Tile).E⟩ (insP ⟨(rdD a (i : Int) z_Tile).E, (rdD b (j : Int) z_Tile).E⟩ s.P) : Nat) : Int), (rdD a (i : Int) z_Tile).S,
      ((ixP ⟨(rdD a (i : Int) z_Tile).W, (rdD b (j : Int) z_Tile).W⟩ (insP ⟨(rdD a (i : Int) z_Tile).W, (rdD b (j : Int) z_Tile).W⟩ (insP ⟨(rdD a (i : Int) z_Tile).E, (rdD b (j : Int) z_Tile).E⟩ s.P)) : Nat) : Int)⟩ : Tile)
      · rw [if_pos e]; simp [e]
      · rw [if_neg e]; simp [e]
theorem onP_l1 {a b : List Tile} {i : Nat} (hi : i < a.length) (hb : b.length ≤ 1000) : ∀ (d j k : Nat) (s : OnS) (m : Nat) (met : List (Tile × Bool)), j + d = b.length → d < k → OnI s m → MetOK met s →
    (match onRow a b i d j s with
      | none => strip_On.l1 k (numL 0 s.P) s.out s.of_ met j a b i = some (.inl ([], [], 4))
      | some s' => ∃ met', MetOK met' s' ∧ strip_On.l1 k (numL 0 s.P) s.out s.of_ met j a b i = some (.inr (numL 0 s'.P, s'.out, s'.of_, met')))
  | 0, j, k, s, m, met, e, hk, h, hm => by
    obtain ⟨k, rfl⟩ : ∃ m, k = m + 1 := ⟨k - 1, by omega⟩
    exact ⟨met, hm, by rw [strip_On.l1, if_neg (by simp; omega)]⟩
  | d + 1, j, k, s, m, met, e, hk, h, hm => by
    obtain ⟨k, rfl⟩ : ∃ m, k = m + 1 := ⟨k - 1, by omega⟩
    have one := onP_one hi (j := j) (by omega) hb h hm k
    rw [onRow]
    cases hs : onStep a b i j s with
    | none => rw [hs] at one; exact one
    | some s1 =>
      rw [hs] at one
      obtain ⟨met1, hm1, e1⟩ := one
      have ih := onP_l1 hi hb d (j + 1) k s1 (m + 2) met1 (by omega) (by omega) (onStep_inv h hs) hm1
      rw [Option.bind_some, e1]
      exact ih
end Gp
set_option linter.unusedVariables false
set_option linter.unusedSimpArgs false
namespace Gp
open Gw Gq
theorem onP_l0 {a b : List Tile} (ha : a.length ≤ 1000) (hb : b.length ≤ 1000) : ∀ (d i k : Nat) (s : OnS) (m : Nat) (met : List (Tile × Bool)), i + d = a.length → d + b.length < k → OnI s m → MetOK met s →
    (match onAll a b d i s with
      | none => strip_On.l0 k (numL 0 s.P) s.out s.of_ met i a b = some (.inl ([], [], 4))
      | some s' => strip_On.l0 k (numL 0 s.P) s.out s.of_ met i a b = some (.inr (s'.out, s'.of_)))
  | 0, i, k, s, m, met, e, hk, h, hm => by
    obtain ⟨k, rfl⟩ : ∃ m, k = m + 1 := ⟨k - 1, by omega⟩
    show strip_On.l0 (k + 1) _ _ _ _ _ _ _ = _
    rw [strip_On.l0, if_neg (by simp; omega)]
  | d + 1, i, k, s, m, met, e, hk, h, hm => by
    obtain ⟨k, rfl⟩ : ∃ m, k = m + 1 := ⟨k - 1, by omega⟩
    have hi : i < a.length := by omega
    have hwi : w64 ((i : Int) + 1) = ((i + 1 : Nat) : Int) := by rw [w64_id (by omega) (by omega)]; rfl
    have row := onP_l1 hi hb b.length 0 k s m met (by omega) (by omega) h hm
    rw [strip_On.l0, if_pos (by simpa using hi), if_pos (show 0 ≤ (i : Int) ∧ (i : Int) < (a.length : Int) by omega), hwi, onAll]
    cases hs : onRow a b i b.length 0 s with
    | none =>
      rw [hs] at row
      have row : strip_On.l1 k (numL 0 s.P) s.out s.of_ met 0 a b i = _ := row
      rw [row]; rfl
    | some s1 =>
      rw [hs] at row
      obtain ⟨met1, hm1, e1⟩ := row
      have e1 : strip_On.l1 k (numL 0 s.P) s.out s.of_ met 0 a b i = _ := e1
      rw [e1]
      exact onP_l0 ha hb d (i + 1) k s1 _ met1 (by omega) (by omega) (onRow_inv b.length 0 h hs) hm1
def onZ : OnS := ⟨[], [], []⟩
theorem on_eq {a b : List Tile} (hva : validT a = true) (hvb : validT b = true) {k : Nat} (hk : 3000 < k) : strip_On k a b = some (match onAll a b a.length 0 onZ with
    | none => ([], [], 4)
    | some s => (s.out, s.of_, 0)) := by
  have ha := valid_len hva; have hb := valid_len hvb
  have h := onP_l0 ha hb a.length 0 k onZ 0 [] (by omega) (by omega) ⟨by simp [onZ], rfl, by simp [onZ]⟩ (fun t => by simp [mget, onZ])
  unfold strip_On
  rw [tile_valid a (by omega) (by omega), Option.bind_some, hva, if_neg (by simp), tile_valid b (by omega) (by omega), Option.bind_some, hvb, Option.bind_some, if_neg (by simp)]
  cases hs : onAll a b a.length 0 onZ with
  | none => rw [hs] at h; have h : strip_On.l0 k [] [] [] [] 0 a b = _ := h; rw [h]; rfl
  | some s => rw [hs] at h; have h : strip_On.l0 k [] [] [] [] 0 a b = _ := h; rw [h]; rfl
/-! the reference -/
theorem tile_beq4 (u : Tile) (n e s w : Int) : (u.N == n && (u.E == e && (u.S == s && (u.W == w)))) = decide (u = ⟨n, e, s, w⟩) := by
  cases u
  rw [Bool.eq_iff_iff, decide_eq_true_eq]
  simp
theorem onR_l2 (a b : List Tile) (i j : Int) (L : List Tile) (hL : L.length ≤ 1000000) (p q : Int × List A2_Int) : ∀ (d x k : Nat) (v : Bool), x + d = L.length → d < k →
    ref04_On.l2 k v x a b i L j p q = some (v || decide ((⟨(rdD b j z_Tile).N, p.1, (rdD a i z_Tile).S, q.1⟩ : Tile) ∈ L.drop x))
  | 0, x, k, v, e, hk => by
    obtain ⟨k, rfl⟩ : ∃ m, k = m + 1 := ⟨k - 1, by omega⟩
    rw [ref04_On.l2, if_neg (by simp; omega), List.drop_of_length_le (by omega)]; simp
  | d + 1, x, k, v, e, hk => by
    obtain ⟨k, rfl⟩ : ∃ m, k = m + 1 := ⟨k - 1, by omega⟩
    have hlt : x < L.length := by omega
    have hwi : w64 ((x : Int) + 1) = ((x + 1 : Nat) : Int) := by rw [w64_id (by omega) (by omega)]; rfl
    rw [ref04_On.l2, if_pos (by simpa using hlt), if_pos (show 0 ≤ (x : Int) ∧ (x : Int) < (L.length : Int) by omega), rdD_get hlt, tile_beq4, hwi, List.drop_eq_getElem_cons hlt]
    have : (if v = true then some true else some (decide (L[x] = (⟨(rdD b j z_Tile).N, p.1, (rdD a i z_Tile).S, q.1⟩ : Tile)))) = some (v || decide (L[x] = (⟨(rdD b j z_Tile).N, p.1, (rdD a i z_Tile).S, q.1⟩ : Tile))) := by cases v <;> rfl
    rw [this, Option.bind_some, onR_l2 a b i j L hL p q d (x + 1) k _ (by omega) (by omega)]
    congr 1
    rw [Bool.or_assoc]
    congr 1
    rw [Bool.eq_iff_iff]
    simp only [Bool.or_eq_true, decide_eq_true_eq, List.mem_cons]
    exact ⟨fun h => h.elim (fun h => .inl h.symm) .inr, fun h => h.elim (fun h => .inl h.symm) .inr⟩
theorem onR_one {a b : List Tile} {i j : Nat} (hi : i < a.length) (hj : j < b.length) (hb : b.length ≤ 1000) {s : OnS} {m : Nat} (h : OnI s m) (hm : m + 2 ≤ 1000000) {k : Nat} (hk : 1000010 < k) :
    ref04_On.l1 (k + 1) s.out s.of_ s.P j a b i = (match onStep a b i j s with
      | none => some (.inl ([], [], false))
      | some s' => ref04_On.l1 k s'.out s'.of_ s'.P ((j + 1 : Nat) : Int) a b i) := by
  have h1 := h.out; have h2 := h.of_; have h3 := h.P
  have hwi : w64 ((j : Int) + 1) = ((j + 1 : Nat) : Int) := by rw [w64_id (by omega) (by omega)]; rfl
  have hA := (insP_len ⟨(rdD a (i : Int) z_Tile).E, (rdD b (j : Int) z_Tile).E⟩ s.P).2
  rw [ref04_On.l1, if_pos (by simpa using hj), if_pos (show 0 ≤ (i : Int) ∧ (i : Int) < (a.length : Int) by omega), if_pos (show 0 ≤ (j : Int) ∧ (j : Int) < (b.length : Int) by omega), hwi]
  unfold onStep
  by_cases hN : (rdD a (i : Int) z_Tile).N = (rdD b (j : Int) z_Tile).S
  rotate_left
  · rw [if_pos hN, if_pos (by simpa using hN)]; rfl
  have hn1 : ¬ ((rdD a (i : Int) z_Tile).N ≠ (rdD b (j : Int) z_Tile).S) := by simpa using hN
  have hn2 : ¬ (((rdD a (i : Int) z_Tile).N != (rdD b (j : Int) z_Tile).S) = true) := by simpa using hN
  rw [if_neg hn1, if_neg hn2, number_eq _ _ (by omega) (by omega), Option.bind_some, number_eq _ _ (by simp only; omega) (by simp only; omega), Option.bind_some]
  have l2 := fun p q => onR_l2 a b i j s.out (by omega) p q s.out.length 0 k false (by omega) (by omega)
  have l2 : ∀ p q, ref04_On.l2 k false 0 a b i s.out j p q = _ := l2
  rw [l2, Option.bind_some, Bool.false_or, List.drop_zero]
  by_cases ht : (⟨(rdD b (j : Int) z_Tile).N, ((ixP ⟨(rdD a (i : Int) z_Tile).E, (rdD b (j : Int) z_Tile).E⟩ (insP ⟨(rdD a (i : Int) z_Tile).E, (rdD b (j : Int) z_Tile).E⟩ s.P) : Nat) : Int), (rdD a (i : Int) z_Tile).S,
      ((ixP ⟨(rdD a (i : Int) z_Tile).W, (rdD b (j : Int) z_Tile).W⟩ (insP ⟨(rdD a (i : Int) z_Tile).W, (rdD b (j : Int) z_Tile).W⟩ (insP ⟨(rdD a (i : Int) z_Tile).E, (rdD b (j : Int) z_Tile).E⟩ s.P)) : Nat) : Int)⟩ : Tile) ∈ s.out
  · rw [if_pos ht, if_pos (decide_eq_true ht)]; rfl
  · rw [if_neg ht, decide_eq_false ht, if_neg (show ¬ (false = true) by simp), if_pos (show s.out.length + [_].length ≤ 100000000000 by simp; omega), if_pos (show s.of_.length + [_].length ≤ 100000000000 by simp; omega)]
    by_cases hg : s.out.length + 1 > 1000 ∨ (insP ⟨(rdD a (i : Int) z_Tile).W, (rdD b (j : Int) z_Tile).W⟩ (insP ⟨(rdD a (i : Int) z_Tile).E, (rdD b (j : Int) z_Tile).E⟩ s.P)).length > 1000
    · rw [if_pos hg, if_pos (by simp; omega)]; rfl
    · rw [if_neg hg, if_neg (by simp; omega)]; rfl
theorem onR_l1 {a b : List Tile} {i : Nat} (hi : i < a.length) (hb : b.length ≤ 1000) : ∀ (d j k : Nat) (s : OnS) (m : Nat), j + d = b.length → d + 1000010 < k → OnI s m → m + 2 * d ≤ 1000000 →
    ref04_On.l1 k s.out s.of_ s.P j a b i = (match onRow a b i d j s with
      | none => some (.inl ([], [], false))
      | some s' => some (.inr (s'.out, s'.of_, s'.P)))
  | 0, j, k, s, m, e, hk, h, hm => by
    obtain ⟨k, rfl⟩ : ∃ m, k = m + 1 := ⟨k - 1, by omega⟩
    rw [ref04_On.l1, if_neg (by simp; omega)]; rfl
  | d + 1, j, k, s, m, e, hk, h, hm => by
    obtain ⟨k, rfl⟩ : ∃ m, k = m + 1 := ⟨k - 1, by omega⟩
    rw [onR_one hi (by omega) hb h (by omega) (by omega), onRow]
    cases hs : onStep a b i j s with
    | none => rfl
    | some s1 => exact onR_l1 hi hb d (j + 1) k s1 (m + 2) (by omega) (by omega) (onStep_inv h hs) (by omega)
theorem onR_l0 {a b : List Tile} (ha : a.length ≤ 1000) (hb : b.length ≤ 1000) : ∀ (d i k : Nat) (s : OnS) (m : Nat), i + d = a.length → d + 1002000 < k → OnI s m → m + d * (2 * b.length) ≤ 1000000 →
    ref04_On.l0 k s.out s.of_ s.P i a b = (match onAll a b d i s with
      | none => some (.inl ([], [], false))
      | some s' => some (.inr (s'.out, s'.of_)))
  | 0, i, k, s, m, e, hk, h, hm => by
    obtain ⟨k, rfl⟩ : ∃ m, k = m + 1 := ⟨k - 1, by omega⟩
    rw [ref04_On.l0, if_neg (by simp; omega)]; rfl
  | d + 1, i, k, s, m, e, hk, h, hm => by
    obtain ⟨k, rfl⟩ : ∃ m, k = m + 1 := ⟨k - 1, by omega⟩
    have hi : i < a.length := by omega
    have hwi : w64 ((i : Int) + 1) = ((i + 1 : Nat) : Int) := by rw [w64_id (by omega) (by omega)]; rfl
    rw [Nat.add_mul, Nat.one_mul] at hm
    have row := onR_l1 hi hb b.length 0 k s m (by omega) (by omega) h (by omega)
    have row : ref04_On.l1 k s.out s.of_ s.P 0 a b i = _ := row
    rw [ref04_On.l0, if_pos (by simpa using hi), hwi, onAll, row]
    cases hs : onRow a b i b.length 0 s with
    | none => rfl
    | some s1 => exact onR_l0 ha hb d (i + 1) k s1 _ (by omega) (by omega) (onRow_inv b.length 0 h hs) (by omega)
theorem refOn_eq {a b : List Tile} (ha : a.length ≤ 1000) (hb : b.length ≤ 1000) (hab : a.length * b.length ≤ 100000) {k : Nat} (hk : 1003100 < k) : ref04_On k a b = some (match onAll a b a.length 0 onZ with
    | none => ([], [], false)
    | some s => (s.out, s.of_, true)) := by
  have e2 : a.length * (2 * b.length) = 2 * (a.length * b.length) := by rw [← Nat.mul_assoc, Nat.mul_comm a.length 2, Nat.mul_assoc]
  have h := onR_l0 ha hb a.length 0 k onZ 0 (by omega) (by omega) ⟨by simp [onZ], rfl, by simp [onZ]⟩ (by omega)
  have h : ref04_On.l0 k [] [] [] 0 a b = _ := h
  unfold ref04_On
  rw [h]
  cases onAll a b a.length 0 onZ <;> rfl
end Gp
set_option linter.unusedVariables false
set_option linter.unusedSimpArgs false
namespace Gp
open Gw Gq
theorem onAll_inv {a b : List Tile} : ∀ (d i : Nat) {s s' : OnS} {m : Nat}, OnI s m → onAll a b d i s = some s' → ∃ m', OnI s' m'
  | 0, i, s, s', m, h, e => by injection e with e; subst e; exact ⟨m, h⟩
  | d + 1, i, s, s', m, h, e => by
    obtain ⟨s1, h1, h2⟩ := bind_some (show (onRow a b i b.length 0 s).bind (onAll a b d (i + 1)) = some s' from e)
    exact onAll_inv d (i + 1) (onRow_inv _ _ h h1) h2
theorem pairs_l0 (l : List A2_Int) (hl : l.length ≤ 1000000) : ∀ (d x k : Nat), x + d = l.length → d < k → law04_pairs.l0 k x l l = some (.inr ())
  | 0, x, k, e, hk => by
    obtain ⟨k, rfl⟩ : ∃ m, k = m + 1 := ⟨k - 1, by omega⟩
    rw [law04_pairs.l0, if_neg (by simp; omega)]
  | d + 1, x, k, e, hk => by
    obtain ⟨k, rfl⟩ : ∃ m, k = m + 1 := ⟨k - 1, by omega⟩
    have hlt : x < l.length := by omega
    have hwi : w64 ((x : Int) + 1) = ((x + 1 : Nat) : Int) := by rw [w64_id (by omega) (by omega)]; rfl
    rw [law04_pairs.l0, if_pos (by simpa using hlt), if_pos (show 0 ≤ (x : Int) ∧ (x : Int) < (l.length : Int) by omega), if_pos (show 0 ≤ (x : Int) ∧ (x : Int) < (l.length : Int) by omega), a2_beq, hwi, if_neg (by simp)]
    exact pairs_l0 l hl d (x + 1) k (by omega) (by omega)
theorem pairs_refl (l : List A2_Int) (hl : l.length ≤ 1000000) {k : Nat} (hk : l.length < k) : law04_pairs k l l = some true := by
  have h := pairs_l0 l hl l.length 0 k (by omega) hk
  have h : law04_pairs.l0 k 0 l l = _ := h
  unfold law04_pairs
  rw [if_neg (by simp), h]; rfl
theorem on_bad {a b : List Tile} (ha : a.length ≤ 9223372036854775807) (hb : b.length ≤ 9223372036854775807) (h : validT a = false ∨ validT b = false) {k : Nat} (hk : 3000 < k) : strip_On k a b = some ([], [], 1) := by
  unfold strip_On
  rw [tile_valid a (by omega) ha, Option.bind_some]
  cases hva : validT a
  · rw [if_pos (by decide)]; rfl
  · rw [if_neg (by decide), tile_valid b (by omega) hb, Option.bind_some]
    rcases h with h | h
    · rw [hva] at h; cases h
    · rw [h]; rfl
theorem law04_StripOn_pure : ∀ (p0 : List Tile) (p1 : List Tile), ((∀ x ∈ p0, ok_Tile x) ∧ p0.length ≤ Go.maxLen) → ((∀ x ∈ p1, ok_Tile x) ∧ p1.length ≤ Go.maxLen) → ∃ k, law04_StripOn k p0 p1 = some true := by
  intro a b hsa hsb
  have hla : a.length ≤ 9223372036854775807 := hsa.2
  have hlb : b.length ≤ 9223372036854775807 := hsb.2
  refine ⟨2000000, ?_⟩
  have aw : law04_awake 2000000 = some true := awake04_ok 1998700
  unfold law04_StripOn
  by_cases h11 : a.length ≤ 1100 ∧ b.length ≤ 1100
  rotate_left
  · rw [if_pos (by simp; omega), Option.bind_some, if_pos rfl, aw]; rfl
  rw [if_neg (by simp; omega), valid01 a (by omega) hla, Option.bind_some]
  cases hva : validT a
  · rw [if_neg (by decide), Option.bind_some, Bool.false_and, Option.bind_some, if_neg (by decide), on_bad hla hlb (.inl hva) (by omega), Option.bind_some, Option.bind_some, if_pos (by decide), Option.bind_some, if_pos rfl, if_pos (by decide), aw]; rfl
  rw [if_pos rfl, valid01 b (by omega) hlb, Option.bind_some, Option.bind_some]
  cases hvb : validT b
  · rw [Bool.false_and, Option.bind_some, if_neg (by decide), on_bad hla hlb (.inr hvb) (by omega), Option.bind_some, Option.bind_some, if_neg (by decide), Option.bind_some, Option.bind_some, if_pos (by decide), if_pos (by decide), aw]; rfl
  have ha := valid_len hva; have hb := valid_len hvb
  have hab : a.length * b.length ≤ 1000 * 1000 := Nat.mul_le_mul ha hb
  have hw : w64 ((a.length : Int) * (b.length : Int)) = ((a.length * b.length : Nat) : Int) := by
    rw [← Int.natCast_mul, w64_id (by omega) (by omega)]
  rw [hw, Bool.true_and, Option.bind_some]
  by_cases hp : a.length * b.length > 100000
  · rw [if_pos (decide_eq_true (by omega)), aw]; rfl
  rw [if_neg (by simp; omega), on_eq hva hvb (by omega), Option.bind_some, Option.bind_some, if_neg (by decide), Option.bind_some, Option.bind_some, if_neg (by decide), refOn_eq ha hb (by omega) (by omega), Option.bind_some]
  cases hs : onAll a b a.length 0 onZ with
  | none =>
    show (if (!false) = true then _ else _) = _
    rw [if_pos (by decide), if_pos (by decide), aw]; rfl
  | some s =>
    obtain ⟨m, hm⟩ := onAll_inv a.length 0 (m := 0) ⟨by simp [onZ], rfl, by simp [onZ]⟩ hs
    have h1 := hm.out; have h2 := hm.of_
    show (if (!true) = true then _ else _) = _
    rw [if_neg (by decide)]
    show ((if ((0 : Int) == 0) = true then ((ref01_SameSet 2000000 s.out s.out).bind fun t => some t) else (some false)).bind fun x => (if x = true then ((law04_pairs 2000000 s.of_ s.of_).bind fun t => some t) else (some false)).bind fun x => (if x = true then ((law04_awake 2000000).bind fun t => some t) else (some false)).bind fun x => some x) = _
    rw [if_pos (by decide), sameset_refl s.out (by omega) _ (by omega), Option.bind_some, Option.bind_some, if_pos rfl, pairs_refl s.of_ (by omega) (by omega), Option.bind_some, Option.bind_some, if_pos rfl, aw]; rfl
end Gp
