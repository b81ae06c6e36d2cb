/- The plain law: what the functions compute answers as the statement says. -/
import Derived.Test.YtchikbfmbfoaoaaDoorGp
import Derived.KernelRfl
set_option linter.unusedVariables false
set_option linter.unusedSimpArgs false
namespace Gq
open Go Gw Gp
/-! ### numbers and lists -/
theorem w64_id {n : Int} (h0 : -9223372036854775808 ≤ n) (h1 : n ≤ 9223372036854775807) : w64 n = n := by
  show IntKind.i64.wrap n = n
  have e : IntKind.i64.wrap n = if (true && decide (n % 18446744073709551616 ≥ 9223372036854775808)) = true then n % 18446744073709551616 - 18446744073709551616 else n % 18446744073709551616 := rfl
  rw [e]
  simp only [Bool.true_and, decide_eq_true_eq]
  split <;> omega
theorem rdD_nat {α : Type} (xs : List α) (i : Nat) (d : α) : rdD xs (i : Int) d = xs.getD i d := by simp [rdD]
theorem rdD_get {α : Type} {xs : List α} {i : Nat} (h : i < xs.length) (d : α) : rdD xs (i : Int) d = xs[i] := by
  simp [rdD, List.getD, List.getElem?_eq_getElem h]
def firstS {α β : Type} (g : Nat → α → Option β) : Nat → List α → Option β
  | _, [] => none
  | i, a :: r => match g i a with
    | some b => some b
    | none => firstS g (i + 1) r
def fin {β : Type} : Option β → Sum β Unit
  | some b => .inl b
  | none => .inr ()
theorem scan {α β : Type} {F : Nat → Int → Option (Sum β Unit)} {xs : List α} {g : Nat → α → Option β}
    (hF : ∀ k (i : Nat), i ≤ xs.length → F (k + 1) (i : Int) = if h : i < xs.length then (match g i xs[i] with | some b => some (.inl b) | none => F k ((i + 1 : Nat) : Int)) else some (.inr ())) :
    ∀ (n k i : Nat), i + n = xs.length → n < k → F k (i : Int) = some (fin (firstS g i (xs.drop i)))
  | 0, k, i, hi, hk => by
    obtain ⟨k, rfl⟩ : ∃ m, k = m + 1 := ⟨k - 1, by omega⟩
    have hi : i = xs.length := by omega
    subst hi
    rw [hF k _ (Nat.le_refl _), dif_neg (Nat.lt_irrefl _), List.drop_length]; rfl
  | n + 1, k, i, hi, hk => by
    obtain ⟨k, rfl⟩ : ∃ m, k = m + 1 := ⟨k - 1, by omega⟩
    have hlt : i < xs.length := by omega
    rw [hF k i (by omega), dif_pos hlt, List.drop_eq_getElem_cons hlt, firstS]
    cases hg : g i xs[i] with
    | some b => rfl
    | none => exact scan hF n k (i + 1) (by omega) (by omega)
end Gq
set_option linter.unusedVariables false
set_option linter.unusedSimpArgs false
namespace Gq
end Gq
namespace Gp
open Gw Gq
/-! ### the tiles of a machine -/
def hd (Y q s : Nat) : Int := ((Y + q * Y + s : Nat) : Int)
end Gp
set_option linter.unusedVariables false
set_option linter.unusedSimpArgs false
namespace Gp
open Gw Gq
/-! the reference -/
/-! equal sets -/
end Gp
set_option linter.unusedVariables false
set_option linter.unusedSimpArgs false
namespace Gq
end Gq
namespace Gp
open Gw Gq
/-! ### where the tiles of a machine lie -/
end Gp
set_option linter.unusedVariables false
set_option linter.unusedSimpArgs false
namespace Gp
open Gw Gq
/-! ### the tile that shows a cell of a step -/
theorem Tile.ext' {a b : Tile} (h1 : a.N = b.N) (h2 : a.E = b.E) (h3 : a.S = b.S) (h4 : a.W = b.W) : a = b := by
  cases a; cases b; simp only at h1 h2 h3 h4; subst h1 h2 h3 h4; rfl
end Gp
set_option linter.unusedVariables false
set_option linter.unusedSimpArgs false
namespace Gq
theorem loop_all {σ ρ τ : Type} {F : Nat → Int → σ → Option (Sum ρ τ)} {S : Nat → σ} {b : Nat → Bool} {n K : Nat} {r : ρ} {e : τ} (hs : ∀ k i, K ≤ k → i < n → F (k + 1) (i : Int) (S i) = if b i = true then F k ((i + 1 : Nat) : Int) (S (i + 1)) else some (.inl r)) (he : ∀ k, F (k + 1) (n : Int) (S n) = some (.inr e)) :
    ∀ k, n + K < k → F k 0 (S 0) = some (if (List.range n).all b = true then .inr e else .inl r) := by
  have key : ∀ d i k, i + d = n → d + K < k → F k (i : Int) (S i) = some (if (List.range' i d).all b = true then .inr e else .inl r) := by
    intro d
    induction d with
    | zero =>
      intro i k hi hk
      obtain ⟨k, rfl⟩ : ∃ m, k = m + 1 := ⟨k - 1, by omega⟩
      have : i = n := by omega
      subst this; rw [he]; rfl
    | succ d ih =>
      intro i k hi hk
      obtain ⟨k, rfl⟩ : ∃ m, k = m + 1 := ⟨k - 1, by omega⟩
      rw [hs k i (by omega) (by omega), List.range'_succ, List.all_cons]
      cases hb : b i
      · rfl
      · rw [if_pos rfl, ih (i + 1) k (by omega) (by omega)]; rfl
  intro k hk
  rw [List.range_eq_range']
  exact key n 0 k (by omega) hk
theorem firstS_ge' {α : Type} {p : α → Bool} : ∀ (xs : List α) (i : Nat), (match firstS (fun i a => if p a = true then none else some (i : Int)) i xs with
    | some x => decide (0 ≤ x)
    | none => false) = !xs.all p
  | [], i => rfl
  | a :: r, i => by
    rw [firstS]
    cases h : p a
    · simp [h]
    · simp only [if_true, List.all_cons, h, Bool.true_and]
      exact firstS_ge' r (i + 1)
end Gq
namespace Gp
open Gw Gq
/-! ### sets of tiles and patterns -/
def inCol (c : Int) : Bool := decide (0 ≤ c ∧ c < 1000)
def colB (t : Tile) : Bool := inCol t.N && inCol t.E && inCol t.S && inCol t.W
theorem idx_col (xs : List Int) (hl : xs.length ≤ 1000000) (k : Nat) (hk : xs.length < k) :
    slices_IndexFunc_int_int_with_tile_colour_1.l0 k 0 xs = some (fin (firstS (fun i a => if inCol a = true then none else some (i : Int)) 0 xs)) := by
  have := scan (F := fun k i => slices_IndexFunc_int_int_with_tile_colour_1.l0 k i xs) (xs := xs) (g := fun i a => if inCol a = true then none else some (i : Int)) (fun k i hi => by
    show slices_IndexFunc_int_int_with_tile_colour_1.l0 (k + 1) i xs = _
    rw [slices_IndexFunc_int_int_with_tile_colour_1.l0]
    by_cases h : i < xs.length
    · have h' : (i : Int) < (xs.length : Int) := by omega
      have h2 : 0 ≤ (i : Int) ∧ (i : Int) < (xs.length : Int) := by omega
      rw [dif_pos h, if_pos (by simpa using h'), if_pos h2, rdD_get h, tile_colour_1, w64_id (by omega) (by omega)]
      by_cases hb : 0 ≤ xs[i] ∧ xs[i] < 1000
      · have h3 : ¬ (xs[i] < 0 ∨ 1000 ≤ xs[i]) := by omega
        simp [inCol, hb]
        intro hh; exact absurd hh h3
      · have h3 : (xs[i] < 0 ∨ 1000 ≤ xs[i]) := by omega
        simp [inCol, hb, h3]
    · have h' : ¬ (i : Int) < (xs.length : Int) := by omega
      rw [dif_neg h, if_neg (by simpa using h')]) xs.length k 0 (by simp) hk
  simpa using this
theorem colour_eq (xs : List Int) (hl : xs.length ≤ 1000000) (k : Nat) (hk : xs.length < k) : tile_colour k xs = some (xs.all inCol) := by
  unfold tile_colour slices_ContainsFunc_int_int_with_tile_colour_1 slices_IndexFunc_int_int_with_tile_colour_1
  rw [idx_col xs hl k hk]
  have := firstS_ge' (p := inCol) xs 0
  cases hf : firstS (fun i a => if inCol a = true then none else some (i : Int)) 0 xs <;> rw [hf] at this <;> cases ha : xs.all inCol <;> rw [ha] at this <;> simp [fin, sumb] at this ⊢
  · exact this
  · exact this
def metS (set : List Tile) (i : Nat) : List (Tile × Bool) := (set.take i).map fun t => (t, true)
theorem mget_met (t : Tile) : ∀ l : List Tile, mget t false (l.map fun t => (t, true)) = decide (t ∈ l)
  | [] => rfl
  | a :: r => by
    simp only [List.map_cons, mget]
    by_cases h : t = a
    · simp [h]
    · rw [if_neg h, mget_met t r]; simp [h]
theorem mput_met (t : Tile) : ∀ l : List Tile, t ∉ l → mput t true (l.map fun t => (t, true)) = (l.map fun t => (t, true)) ++ [(t, true)]
  | [], _ => rfl
  | a :: r, h => by
    simp only [List.mem_cons, not_or] at h
    simp only [List.map_cons, mput, if_neg h.1, mput_met t r h.2, List.cons_append]
def newB (set : List Tile) (i : Nat) : Bool := !decide (set.getD i z_Tile ∈ set.take i) && colB (set.getD i z_Tile)
def validT (set : List Tile) : Bool := decide (set.length ≤ 1000) && (List.range set.length).all (newB set)
theorem tile_valid (set : List Tile) {k : Nat} (hk : 1006 ≤ k) (hl : set.length ≤ 9223372036854775807) : tile_Valid k set = some (validT set) := by
  unfold tile_Valid validT
  by_cases hb : set.length ≤ 1000
  · rw [if_neg (by simp; omega)]
    have := loop_all (F := fun k i (m : List (Tile × Bool)) => tile_Valid.l0 k m i set) (S := metS set) (b := newB set) (n := set.length) (K := 5) (r := false) (e := ()) (fun k i hk hi => by
      show tile_Valid.l0 (k + 1) (metS set i) i set = if newB set i = true then tile_Valid.l0 k (metS set (i + 1)) ((i + 1 : Nat) : Int) set else _
      rw [tile_Valid.l0, if_pos (by simpa using hi), if_pos (by omega), rdD_nat, metS, mget_met]
      have ht : set.getD i z_Tile = set[i] := by simp [List.getElem?_eq_getElem hi]
      unfold newB
      by_cases hm : set.getD i z_Tile ∈ set.take i
      · rw [if_pos (by simpa using hm), show decide (set.getD i z_Tile ∈ set.take i) = true from decide_eq_true hm]; rfl
      · rw [if_neg (by simpa using hm), colour_eq _ (by simp) k (by simp; omega), Option.bind_some, Option.bind_some]
        have hc : ([(set.getD i z_Tile).N, (set.getD i z_Tile).E, (set.getD i z_Tile).S, (set.getD i z_Tile).W].all inCol) = colB (set.getD i z_Tile) := by simp [colB, Bool.and_assoc]
        rw [hc]
        cases hcb : colB (set.getD i z_Tile)
        · simp
        · rw [mput_met _ _ hm, w64_id (by omega) (by omega)]
          simp only [hm, Bool.not_true, Bool.false_eq_true, if_false, decide_false, Bool.not_false, Bool.and_self, if_true]
          unfold metS
          rw [List.take_add_one, List.map_append, List.getElem?_eq_getElem hi, ht]; rfl) (fun k => by
      show tile_Valid.l0 (k + 1) (metS set set.length) set.length set = _
      rw [tile_Valid.l0, if_neg (by simp)]) k (by omega)
    have h0 : tile_Valid.l0 k [] 0 set = some (if (List.range set.length).all (newB set) = true then .inr () else .inl false) := this
    rw [h0]
    cases (List.range set.length).all (newB set) <;> simp [sumb, hb]
  · rw [if_pos (by simp; omega)]; simp [hb]
end Gp
set_option linter.unusedVariables false
set_option linter.unusedSimpArgs false
namespace Gp
open Gw Gq
/-! ### the pictures are patterns of the tiles -/
end Gp
set_option linter.unusedVariables false
set_option linter.unusedSimpArgs false
namespace Gq
end Gq
namespace Gp
open Gw Gq
/-! ### the patterns of the statements' own reference -/
end Gp
set_option linter.unusedVariables false
set_option linter.unusedSimpArgs false
namespace Gp
open Gw Gq
end Gp
set_option linter.unusedVariables false
set_option linter.unusedSimpArgs false
namespace Gp
open Gw Gq
/-! ### a torus, repeated -/
end Gp
set_option linter.unusedVariables false
set_option linter.unusedSimpArgs false
namespace Gp
open Gw Gq
/-! ### the first layer's reference -/
theorem colour01 (c : Int) : ref01_colour c = some (inCol c) := by
  unfold ref01_colour inCol
  by_cases h : 0 ≤ c ∧ c < 1000
  · simp [h]
  · rw [decide_eq_false h]
    congr 1
    cases h1 : decide (c ≥ 0)
    · rfl
    · have : ¬ c < 1000 := fun h2 => h ⟨by simpa using h1, h2⟩
      simp [this]
theorem index01 {set : List Tile} (hl : set.length ≤ 1000000) (t : Tile) {k : Nat} (hk : set.length < k) : ∃ r : Int, ref01_Index k set t = some r ∧ decide (r ≥ 0) = decide (t ∈ set) := by
  have := scan (F := fun k i => ref01_Index.l0 k i set t) (xs := set) (g := fun i a => if a = t then some (i : Int) else none) (fun k i hi => by
    show ref01_Index.l0 (k + 1) i set t = _
    rw [ref01_Index.l0]
    by_cases h : i < set.length
    · have h2 : 0 ≤ (i : Int) ∧ (i : Int) < (set.length : Int) := by omega
      rw [dif_pos h, if_pos (by simpa using h), if_pos h2, rdD_get h, w64_id (by omega) (by omega)]
      by_cases hb : set[i] = t
      · subst hb; simp
      · have : ((set[i].N == t.N) && ((set[i].E == t.E) && ((set[i].S == t.S) && (set[i].W == t.W)))) = false := by
          cases hc : ((set[i].N == t.N) && ((set[i].E == t.E) && ((set[i].S == t.S) && (set[i].W == t.W))))
          · rfl
          · simp only [Bool.and_eq_true, beq_iff_eq] at hc
            exact absurd (Tile.ext' hc.1 hc.2.1 hc.2.2.1 hc.2.2.2) hb
        rw [this, if_neg hb]; rfl
    · rw [dif_neg h, if_neg (by simpa using h)]) set.length k 0 (by simp) hk
  have h0 : ref01_Index.l0 k 0 set t = some (fin (firstS (fun i a => if a = t then some (i : Int) else none) 0 (set.drop 0))) := this
  rw [List.drop_zero] at h0
  have key : ∀ (l : List Tile) (i : Nat), match firstS (fun i a => if a = t then some (i : Int) else none) i l with
      | some x => decide (x ≥ 0) = decide (t ∈ l)
      | none => decide (t ∈ l) = false := by
    intro l
    induction l with
    | nil => intro i; simp [firstS]
    | cons a r ih =>
      intro i
      rw [firstS]
      by_cases ha : a = t
      · subst ha; simp
      · have hne : ¬ t = a := fun e => ha e.symm
        rw [if_neg ha]
        have := ih (i + 1)
        cases hf : firstS (fun i a => if a = t then some (i : Int) else none) (i + 1) r with
        | none => rw [hf] at this; simp only [List.mem_cons, hne, false_or]; exact this
        | some x => rw [hf] at this; simp only [List.mem_cons, hne, false_or]; exact this
  unfold ref01_Index
  rw [h0]
  have hk2 := key set 0
  cases hf : firstS (fun i a => if a = t then some (i : Int) else none) 0 set with
  | none => rw [hf] at hk2; exact ⟨-1, rfl, by rw [hk2]; rfl⟩
  | some x => rw [hf] at hk2; exact ⟨x, rfl, hk2⟩
theorem valid01 (set : List Tile) {k : Nat} (hk : 2002 < k) (hl : set.length ≤ 9223372036854775807) : ref01_Valid k set = some (validT set) := by
  unfold ref01_Valid validT
  by_cases hb : set.length ≤ 1000
  · rw [if_neg (by simp; omega)]
    have := loop_all (F := fun k i (_ : Unit) => ref01_Valid.l0 k i set) (S := fun _ => ()) (b := newB set) (n := set.length) (K := 1001) (r := false) (e := ()) (fun k i hk hi => by
      show ref01_Valid.l0 (k + 1) i set = if newB set i = true then ref01_Valid.l0 k ((i + 1 : Nat) : Int) set else _
      have hcut : cut set (0 : Int) (i : Int) = set.take i := by unfold cut; simp
      obtain ⟨r, hr, hd⟩ := index01 (set := set.take i) (by rw [List.length_take]; omega) (set.getD i z_Tile) (k := k) (by rw [List.length_take]; omega)
      rw [ref01_Valid.l0, if_pos (by simpa using hi), if_pos (by omega)]
      simp only [rdD_nat, colour01, Option.bind_some, hcut]
      rw [if_pos (⟨by omega, by omega, by omega⟩ : 0 ≤ (0 : Int) ∧ (0 : Int) ≤ (i : Int) ∧ (i : Int) ≤ (set.length : Int)), hr, w64_id (by omega) (by omega)]
      simp only [Option.bind_some, hd]
      unfold newB colB
      cases inCol (set.getD i z_Tile).N
      · simp
      · cases inCol (set.getD i z_Tile).E
        · simp
        · cases inCol (set.getD i z_Tile).S
          · simp
          · cases inCol (set.getD i z_Tile).W
            · simp
            · cases decide (set.getD i z_Tile ∈ set.take i) <;> simp) (fun k => by
      show ref01_Valid.l0 (k + 1) set.length set = _
      rw [ref01_Valid.l0, if_neg (by simp)]) k (by omega)
    have h0 : ref01_Valid.l0 k 0 set = some (if (List.range set.length).all (newB set) = true then .inr () else .inl false) := this
    rw [h0]
    cases (List.range set.length).all (newB set) <;> simp [sumb, hb]
  · rw [if_pos (by simp; omega)]; simp [hb]
end Gp
set_option linter.unusedVariables false
set_option linter.unusedSimpArgs false
namespace Gp
open Gw Gq
/-! ### grids: lists of rows -/
def grid (w h : Nat) (g : Nat → Nat → Int) : List Int := (List.range h).flatMap fun y => (List.range w).map (g y)
/-! ### stores into a list -/
def sets (l : List Int) (q : List (Nat × Int)) : List Int := q.foldl (fun l p => l.set p.1 p.2) l
/-! ### patterns that have the form of one -/
theorem succ64 {x : Nat} (h : x ≤ 1000000) : w64 ((x : Int) + 1) = ((x + 1 : Nat) : Int) := by rw [w64_id (by omega) (by omega)]; rfl
/-! ### the changed patterns -/
end Gp
set_option linter.unusedVariables false
set_option linter.unusedSimpArgs false
namespace Gp
open Gw Gq
/-! ### cuts -/
/-! ### patterns, repeated -/
/-! ### what is equal -/
theorem same01 (l : List Int) (hl : l.length ≤ 1000000) {k : Nat} (hk : l.length < k) : ref01_Same k l l = some true := by
  have := loop_all (F := fun k i (_ : Unit) => ref01_Same.l0 k i l l) (S := fun _ => ()) (b := fun _ => true) (n := l.length) (K := 0) (r := false) (e := ()) (fun k i _ hi => by
    show ref01_Same.l0 (k + 1) i l l = if true = true then ref01_Same.l0 k ((i + 1 : Nat) : Int) l l else _
    rw [ref01_Same.l0, if_pos (by simpa using hi), if_pos (by omega), if_pos (by omega), if_neg (by simp), succ64 (by omega), if_pos rfl]) (fun k => by
    show ref01_Same.l0 (k + 1) l.length l l = _
    rw [ref01_Same.l0, if_neg (by simp)]) k (by omega)
  have this : ref01_Same.l0 k 0 l l = some (if (List.range l.length).all (fun _ => true) = true then .inr () else .inl false) := this
  unfold ref01_Same
  rw [if_neg (by simp), this, if_pos (by simp)]; rfl
end Gp
set_option linter.unusedVariables false
set_option linter.unusedSimpArgs false
namespace Gp
open Gw Gq
/-! ### changed sets -/
structure Chg (f : Tile → Tile) : Prop where
  inj : ∀ a b, f a = f b → a = b
  col : ∀ t, colB (f t) = colB t
theorem getD_map (f : Tile → Tile) {s : List Tile} {i : Nat} (h : i < s.length) : (s.map f).getD i z_Tile = f (s.getD i z_Tile) := by simp [List.getElem?_eq_getElem h]
theorem Chg.valid {f : Tile → Tile} (c : Chg f) {s : List Tile} (hv : validT s = true) : validT (s.map f) = true := by
  unfold validT at hv ⊢
  simp only [Bool.and_eq_true, decide_eq_true_eq, List.all_eq_true, List.mem_range, List.length_map] at hv ⊢
  refine ⟨hv.1, fun i hi => ?_⟩
  have := hv.2 i hi
  unfold newB at this ⊢
  rw [getD_map f hi, ← List.map_take, c.col]
  simp only [Bool.and_eq_true, Bool.not_eq_true', decide_eq_false_iff_not] at this ⊢
  refine ⟨fun hm => this.1 ?_, this.2⟩
  obtain ⟨a, ha, he⟩ := List.mem_map.1 hm
  rw [← c.inj _ _ he]; exact ha
/-! ### how the tiles of a grid meet -/
def JP (W H : Nat) (round : Bool) (T : Nat → Nat → Tile) : Prop :=
  (∀ y x, y < H → x < W → (x + 1 < W ∨ round = true) → (T y x).E = (T y ((x + 1) % W)).W) ∧ (∀ y x, y < H → x < W → (y + 1 < H ∨ round = true) → (T y x).N = (T ((y + 1) % H) x).S)
theorem JP.congr {W H : Nat} {round : Bool} {T T' : Nat → Nat → Tile} (he : ∀ y x, y < H → x < W → T y x = T' y x) (h : JP W H round T) : JP W H round T' := by
  refine ⟨fun y x hy hx hr => ?_, fun y x hy hx hr => ?_⟩
  · rw [← he y x hy hx, ← he y _ hy (Nat.mod_lt _ (by omega))]; exact h.1 y x hy hx hr
  · rw [← he y x hy hx, ← he _ x (Nat.mod_lt _ (by omega)) hx]; exact h.2 y x hy hx hr
def TT (s : List Tile) (c : Nat → Nat → Int) (y x : Nat) : Tile := s.getD (c y x).toNat z_Tile
structure GOK (s : List Tile) (W H : Nat) (c : Nat → Nat → Int) (whole : Bool) : Prop where
  valid : validT s = true
  dW : 1 ≤ W ∧ W ≤ 40000
  dH : 1 ≤ H ∧ H ≤ 40000
  wh : H * W ≤ 40000
  cel : ∀ y x, y < H → x < W → 0 ≤ c y x ∧ c y x < (s.length : Int)
  fits : JP W H false (TT s c)
  round : whole = true ↔ JP W H true (TT s c)
theorem valid_len {s : List Tile} (hv : validT s = true) : s.length ≤ 1000 := by unfold validT at hv; simp only [Bool.and_eq_true, decide_eq_true_eq] at hv; exact hv.1
theorem GOK.congr {s : List Tile} {W H : Nat} {c c' : Nat → Nat → Int} {whole : Bool} (g : GOK s W H c whole) (he : ∀ y x, y < H → x < W → c y x = c' y x) : GOK s W H c' whole := by
  have ht : ∀ y x, y < H → x < W → TT s c y x = TT s c' y x := fun y x hy hx => by unfold TT; rw [he y x hy hx]
  exact ⟨g.valid, g.dW, g.dH, g.wh, fun y x hy hx => by rw [← he y x hy hx]; exact g.cel y x hy hx, g.fits.congr ht, g.round.trans ⟨fun h => h.congr ht, fun h => h.congr (fun y x hy hx => (ht y x hy hx).symm)⟩⟩
/-! mirrored -/
end Gp
set_option linter.unusedVariables false
set_option linter.unusedSimpArgs false
namespace Gq
end Gq
namespace Gp
open Gw Gq
/-! ### words, rows -/
/-! few -/
end Gp
set_option linter.unusedVariables false
set_option linter.unusedSimpArgs false
namespace Gq
open Gw
end Gq
namespace Gp
open Gw Gq
/-! ### rectangles that are filled -/
end Gp
set_option linter.unusedVariables false
set_option linter.unusedSimpArgs false
namespace Gp
open Gw Gq
/-! the whole function -/
end Gp
set_option linter.unusedVariables false
set_option linter.unusedSimpArgs false
namespace Gp
open Gw Gq
/-! ### rows and patterns -/
end Gp
set_option linter.unusedVariables false
set_option linter.unusedSimpArgs false
namespace Gp
open Gw Gq
/-! ### squares -/
end Gp
set_option linter.unusedVariables false
set_option linter.unusedSimpArgs false
namespace Gp
open Gw Gq
end Gp
set_option linter.unusedVariables false
set_option linter.unusedSimpArgs false
namespace Gp
open Gw Gq
theorem awake04_ok (k : Nat) : law04_awake (k + 1300) = some true := by kernel_rfl
/-! numbers of pairs -/
theorem mget_put {κ ν : Type} [DecidableEq κ] (x y : κ) (z v : ν) : ∀ l : List (κ × ν), mget x z (mput y v l) = if x = y then v else mget x z l
  | [] => by simp [mput, mget]
  | p :: r => by
    simp only [mput]
    by_cases h : y = p.1
    · rw [if_pos h]
      simp only [mget]
      by_cases hx : x = y
      · rw [if_pos hx, if_pos hx]
      · rw [if_neg hx, if_neg hx, if_neg (fun e => hx (e.trans h.symm))]
    · rw [if_neg h]
      simp only [mget]
      by_cases hx : x = p.1
      · rw [if_pos hx, if_pos hx, if_neg (fun e => h (e.symm.trans hx))]
      · rw [if_neg hx, if_neg hx]; exact mget_put x y z v r
end Gp
set_option linter.unusedVariables false
set_option linter.unusedSimpArgs false
namespace Gp
open Gw Gq
end Gp
set_option linter.unusedVariables false
set_option linter.unusedSimpArgs false
namespace Gp
open Gw Gq
/-! the reference -/
end Gp
set_option linter.unusedVariables false
set_option linter.unusedSimpArgs false
namespace Gp
open Gw Gq
end Gp
set_option linter.unusedVariables false
set_option linter.unusedSimpArgs false
set_option maxRecDepth 4000
namespace Gp
open Gw Gq
theorem u64_id {n : Nat} (h : n < 18446744073709551616) : Go.IntKind.u64.wrap (n : Int) = n := by
  simp [Go.IntKind.wrap, Go.IntKind.bits, Go.IntKind.signed]; omega
theorem bv_of {n : Nat} : (BitVec.ofInt 64 (n : Int)).toNat = n % 18446744073709551616 := by
  rw [BitVec.toNat_ofInt]
  show ((n : Int) % ((2 ^ 64 : Nat) : Int)).toNat = _
  have : ((2 ^ 64 : Nat) : Int) = 18446744073709551616 := by decide
  rw [this]; omega
theorem shl1 {x : Nat} (h : x < 64) : shlV 1 (x : Int) = ((2 ^ x : Nat) : Int) := by
  unfold shlV
  rw [Int.toNat_natCast, Int.one_mul]
  have hp : (2 : Nat) ^ x < 18446744073709551616 := by
    have := Nat.pow_lt_pow_right (a := 2) (by omega) h
    exact this
  have : ((2 : Int) ^ x) = ((2 ^ x : Nat) : Int) := by simp
  rw [this, u64_id hp]
theorem orN {a b : Nat} (ha : a < 18446744073709551616) (hb : b < 18446744073709551616) : orV (a : Int) (b : Int) = ((a ||| b : Nat) : Int) ∧ a ||| b < 18446744073709551616 := by
  have hlt : a ||| b < 18446744073709551616 := Nat.or_lt_two_pow (n := 64) ha hb
  refine ⟨?_, hlt⟩
  unfold orV
  rw [BitVec.toNat_or, bv_of, bv_of, Nat.mod_eq_of_lt ha, Nat.mod_eq_of_lt hb, u64_id hlt]
theorem hasN {a x : Nat} (ha : a < 18446744073709551616) (hx : x < 64) : (andV (shrV (a : Int) (x : Int)) 1 == 1) = a.testBit x := by
  have hs : shrV (a : Int) (x : Int) = ((a / 2 ^ x : Nat) : Int) := by
    unfold shrV
    rw [Int.toNat_natCast, Int.fdiv_eq_ediv_of_nonneg _ (by exact Int.le_of_lt (Int.pow_pos (by decide)))]
    simp
  have hd : a / 2 ^ x < 18446744073709551616 := Nat.lt_of_le_of_lt (Nat.div_le_self _ _) ha
  have e1 : (BitVec.ofInt 64 (1 : Int)).toNat = 1 := by decide
  have e2 : andV (shrV (a : Int) (x : Int)) 1 = ((a / 2 ^ x % 2 : Nat) : Int) := by
    unfold andV
    rw [hs, BitVec.toNat_and, bv_of, e1, Nat.mod_eq_of_lt hd, Nat.and_one_is_mod, u64_id (Nat.lt_of_lt_of_le (Nat.mod_lt _ (by omega)) (by omega))]
  rw [e2, Nat.testBit_eq_decide_div_mod_eq, Bool.eq_iff_iff]
  generalize a / 2 ^ x % 2 = m
  simp only [beq_iff_eq, decide_eq_true_eq]
  omega
def wdsA (c : A16_Int) : List Int := [c.e0, c.e1, c.e2, c.e3, c.e4, c.e5, c.e6, c.e7, c.e8, c.e9, c.e10, c.e11, c.e12, c.e13, c.e14, c.e15]
theorem wds_set (c : A16_Int) {i : Int} (hi : 0 ≤ i ∧ i < 16) (v : Int) : wdsA (A16_Int.set c i v) = (wdsA c).set i.toNat v := cases16 (Q := fun z => wdsA (A16_Int.set c z v) = (wdsA c).set z.toNat v) hi rfl rfl rfl rfl rfl rfl rfl rfl rfl rfl rfl rfl rfl rfl rfl rfl
theorem get_wds (c : A16_Int) (i : Int) : A16_Int.get c i = getI (wdsA c) i := rfl
def okC (c : A16_Int) : Prop := ∀ i : Nat, i < 16 → ∃ n : Nat, getI (wdsA c) (i : Int) = n ∧ n < 18446744073709551616
def hasC (c : A16_Int) (x : Nat) : Bool := (getI (wdsA c) ((x / 64 : Nat) : Int)).toNat.testBit (x % 64)
theorem divmod {x : Nat} (hx : x < 1000) : w64 (Int.tdiv (x : Int) 64) = ((x / 64 : Nat) : Int) ∧ Int.tmod (x : Int) 64 = ((x % 64 : Nat) : Int) := by
  have h1 : Int.tdiv (x : Int) 64 = ((x / 64 : Nat) : Int) := rfl
  have h2 : Int.tmod (x : Int) 64 = ((x % 64 : Nat) : Int) := rfl
  exact ⟨by rw [h1, w64_id (by omega) (by omega)], h2⟩
theorem has_eq {c : A16_Int} (hc : okC c) {x : Nat} (hx : x < 1000) : strip_colours_has c (x : Int) = some (hasC c x) := by
  obtain ⟨e1, e2⟩ := divmod hx
  obtain ⟨n, en, hn⟩ := hc (x / 64) (by omega)
  unfold strip_colours_has hasC
  rw [e1, e2, if_pos (by omega), if_pos (by omega), get_wds, en, hasN hn (by omega), Int.toNat_natCast]
theorem put_eqL {c : A16_Int} (hc : okC c) {x : Nat} (hx : x < 1000) : ∃ c', strip_colours_put c (x : Int) = some c' ∧ okC c' ∧ ∀ y, y < 1024 → hasC c' y = (hasC c y || decide (y = x)) := by
  obtain ⟨e1, e2⟩ := divmod hx
  obtain ⟨n, en, hn⟩ := hc (x / 64) (by omega)
  have hp : 2 ^ (x % 64) < 18446744073709551616 := Nat.pow_lt_pow_right (a := 2) (by omega) (show x % 64 < 64 by omega)
  obtain ⟨o1, o2⟩ := orN hn hp
  unfold strip_colours_put
  rw [e1, e2, if_pos (by omega), if_pos (by omega), get_wds, en, shl1 (by omega), o1]
  have hg : ∀ i : Nat, i < 16 → getI (wdsA (A16_Int.set c ((x / 64 : Nat) : Int) ((n ||| 2 ^ (x % 64) : Nat) : Int))) (i : Int) = if i = x / 64 then ((n ||| 2 ^ (x % 64) : Nat) : Int) else getI (wdsA c) (i : Int) := fun i hi => by
    rw [wds_set c (by omega)]
    unfold getI
    rw [Int.toNat_natCast, Int.toNat_natCast, List.getD_eq_getElem?_getD, List.getElem?_set]
    by_cases h : x / 64 = i
    · rw [if_pos h, if_pos h.symm, if_pos (by simp [wdsA]; omega)]; rfl
    · rw [if_neg h, if_neg (fun e => h e.symm), List.getD_eq_getElem?_getD]
  refine ⟨_, rfl, fun i hi => ?_, fun y hy => ?_⟩
  · rw [hg i hi]
    split
    · exact ⟨_, rfl, o2⟩
    · exact hc i hi
  · unfold hasC
    rw [hg (y / 64) (by omega)]
    by_cases h : y / 64 = x / 64
    · rw [if_pos h, h, en, Int.toNat_natCast, Int.toNat_natCast, Nat.testBit_or, Nat.testBit_two_pow]
      congr 1
      rw [Bool.eq_iff_iff]; simp; omega
    · rw [if_neg h]
      have : decide (y = x) = false := decide_eq_false fun e => h (by rw [e])
      rw [this, Bool.or_false]
theorem put_eq {c : A16_Int} (hc : okC c) {x : Nat} (hx : x < 1000) : ∃ c', strip_colours_put c (x : Int) = some c' ∧ okC c' ∧ ∀ y, y < 1000 → hasC c' y = (hasC c y || decide (y = x)) := by
  obtain ⟨c', h1, h2, h3⟩ := put_eqL hc hx
  exact ⟨c', h1, h2, fun y hy => h3 y (by omega)⟩
def zC : A16_Int := ⟨0, 0, 0, 0, 0, 0, 0, 0, 0, 0, 0, 0, 0, 0, 0, 0⟩
theorem okC_z : okC zC := fun i hi => ⟨0, by
  have : ∀ j : Fin 16, getI (wdsA zC) ((j : Nat) : Int) = ((0 : Nat) : Int) := by decide
  exact this ⟨i, hi⟩, by omega⟩
theorem hasC_zL {x : Nat} (hx : x < 1024) : hasC zC x = false := by
  have : ∀ j : Fin 16, getI (wdsA zC) ((j : Nat) : Int) = 0 := by decide
  have := this ⟨x / 64, by omega⟩
  unfold hasC
  rw [this]; simp
theorem hasC_z {x : Nat} (hx : x < 1000) : hasC zC x = false := hasC_zL (by omega)
end Gp
set_option linter.unusedVariables false
set_option linter.unusedSimpArgs false
namespace Gp
open Gw Gq
def colB4 (s : List Tile) : Prop := ∀ t ∈ s, (0 ≤ t.N ∧ t.N < 1000) ∧ (0 ≤ t.E ∧ t.E < 1000) ∧ (0 ≤ t.S ∧ t.S < 1000) ∧ (0 ≤ t.W ∧ t.W < 1000)
end Gp
set_option linter.unusedVariables false
set_option linter.unusedSimpArgs false
namespace Gp
open Gw Gq
theorem validT_iff4 (s : List Tile) : validT s = true ↔ s.length ≤ 1000 ∧ s.Nodup ∧ ∀ t ∈ s, colB t = true := by
  unfold validT
  simp only [Bool.and_eq_true, decide_eq_true_eq, List.all_eq_true, List.mem_range]
  have hg : ∀ i (h : i < s.length), s.getD i z_Tile = s[i] := fun i h => by simp [List.getElem?_eq_getElem h]
  refine and_congr_right fun _ => ⟨fun h => ⟨?_, fun t ht => ?_⟩, fun h i hi => ?_⟩
  · rw [List.Nodup, List.pairwise_iff_getElem]
    intro i j hi hj hij he
    have := h j hj
    unfold newB at this
    rw [hg j hj, Bool.and_eq_true, Bool.not_eq_true', decide_eq_false_iff_not] at this
    exact this.1 (by rw [← he]; exact List.mem_take_iff_getElem.2 ⟨i, by omega, rfl⟩)
  · obtain ⟨i, hi, rfl⟩ := List.getElem_of_mem ht
    have := h i hi
    unfold newB at this
    rw [hg i hi, Bool.and_eq_true] at this
    exact this.2
  · unfold newB
    rw [hg i hi, h.2 _ (List.getElem_mem hi), Bool.and_true, Bool.not_eq_true', decide_eq_false_iff_not]
    intro hm
    obtain ⟨j, hj, he⟩ := List.mem_take_iff_getElem.1 hm
    have := h.1
    rw [List.Nodup, List.pairwise_iff_getElem] at this
    exact this j i (by omega) hi (by omega) he
theorem colB4_of {s : List Tile} (hv : validT s = true) : colB4 s := by
  have := ((validT_iff4 s).1 hv).2.2
  intro t ht
  have := this t ht
  unfold colB inCol at this
  simp only [Bool.and_eq_true, decide_eq_true_eq] at this
  omega
end Gp
set_option linter.unusedVariables false
set_option linter.unusedSimpArgs false
namespace Gp
open Gw Gq
theorem set_id {α : Type} (l : List α) {i : Nat} (h : i < l.length) {v : α} (hv : l[i] = v) : l.set i v = l := by
  subst hv; exact List.set_getElem_self h
end Gp
set_option linter.unusedVariables false
set_option linter.unusedSimpArgs false
namespace Gp
open Gw Gq
end Gp
set_option linter.unusedVariables false
set_option linter.unusedSimpArgs false
namespace Gp
open Gw Gq
theorem cols_north_l0 (s : List Tile) (L : List Int) (hL : ∀ j ∈ L, 0 ≤ j ∧ j < (s.length : Int)) (hl : L.length ≤ 1000000) : ∀ (d x k : Nat) (m0 : List (Int × Bool)), x + d = L.length → d < k → (∀ c, mget c false m0 = (L.take x).any fun j => decide ((rdD s j z_Tile).N = c)) →
    ∃ m, strip_rest_colours_with_strip_north.l0 k m0 x ⟨s, L⟩ = some m ∧ ∀ c, mget c false m = L.any fun j => decide ((rdD s j z_Tile).N = c)
  | 0, x, k, m0, e, hk, h => by
    obtain ⟨k, rfl⟩ : ∃ m, k = m + 1 := ⟨k - 1, by omega⟩
    refine ⟨m0, by rw [strip_rest_colours_with_strip_north.l0, if_neg (by simp; omega)], fun c => ?_⟩
    rw [h c, List.take_of_length_le (by omega)]
  | d + 1, x, k, m0, e, hk, h => by
    obtain ⟨k, rfl⟩ : ∃ m, k = m + 1 := ⟨k - 1, by omega⟩
    have hlt : x < L.length := by omega
    have hwx : w64 ((x : Int) + 1) = ((x + 1 : Nat) : Int) := by rw [w64_id (by omega) (by omega)]; rfl
    have hj := hL L[x] (List.getElem_mem hlt)
    obtain ⟨m, e1, h1⟩ := cols_north_l0 s L hL hl d (x + 1) k (mput (rdD s L[x] z_Tile).N true m0) (by omega) (by omega) (fun c => by
      rw [mget_put, h c, List.take_succ_eq_append_getElem hlt, List.any_append]
      by_cases hc : c = (rdD s L[x] z_Tile).N
      · rw [if_pos hc]; simp [hc]
      · have hd : decide ((rdD s L[x] z_Tile).N = c) = false := decide_eq_false fun e => hc e.symm
        rw [if_neg hc, List.any_cons, List.any_nil, hd, Bool.or_false, Bool.or_false])
    refine ⟨m, ?_, h1⟩
    rw [strip_rest_colours_with_strip_north.l0, if_pos (by simpa using hlt), if_pos (by simp; omega)]
    simp only [rdD_get hlt]
    rw [if_pos hj, hwx]
    show (Option.bind (some (rdD s L[x] z_Tile).N) _) = _
    rw [Option.bind_some]
    exact e1
theorem cols_north (s : List Tile) (L : List Int) (hL : ∀ j ∈ L, 0 ≤ j ∧ j < (s.length : Int)) (hl : L.length ≤ 1000000) {k : Nat} (hk : L.length < k) : ∃ m, strip_rest_colours_with_strip_north k ⟨s, L⟩ = some m ∧ ∀ c, mget c false m = L.any fun j => decide ((rdD s j z_Tile).N = c) := by
  obtain ⟨m, e1, h1⟩ := cols_north_l0 s L hL hl L.length 0 k [] (by omega) hk (fun c => by simp [mget])
  have e1 : strip_rest_colours_with_strip_north.l0 k [] 0 ⟨s, L⟩ = some m := e1
  exact ⟨m, by unfold strip_rest_colours_with_strip_north; rw [e1]; rfl, h1⟩
theorem cols_east_l0 (s : List Tile) (L : List Int) (hL : ∀ j ∈ L, 0 ≤ j ∧ j < (s.length : Int)) (hl : L.length ≤ 1000000) : ∀ (d x k : Nat) (m0 : List (Int × Bool)), x + d = L.length → d < k → (∀ c, mget c false m0 = (L.take x).any fun j => decide ((rdD s j z_Tile).E = c)) →
    ∃ m, strip_rest_colours_with_strip_east.l0 k m0 x ⟨s, L⟩ = some m ∧ ∀ c, mget c false m = L.any fun j => decide ((rdD s j z_Tile).E = c)
  | 0, x, k, m0, e, hk, h => by
    obtain ⟨k, rfl⟩ : ∃ m, k = m + 1 := ⟨k - 1, by omega⟩
    refine ⟨m0, by rw [strip_rest_colours_with_strip_east.l0, if_neg (by simp; omega)], fun c => ?_⟩
    rw [h c, List.take_of_length_le (by omega)]
  | d + 1, x, k, m0, e, hk, h => by
    obtain ⟨k, rfl⟩ : ∃ m, k = m + 1 := ⟨k - 1, by omega⟩
    have hlt : x < L.length := by omega
    have hwx : w64 ((x : Int) + 1) = ((x + 1 : Nat) : Int) := by rw [w64_id (by omega) (by omega)]; rfl
    have hj := hL L[x] (List.getElem_mem hlt)
    obtain ⟨m, e1, h1⟩ := cols_east_l0 s L hL hl d (x + 1) k (mput (rdD s L[x] z_Tile).E true m0) (by omega) (by omega) (fun c => by
      rw [mget_put, h c, List.take_succ_eq_append_getElem hlt, List.any_append]
      by_cases hc : c = (rdD s L[x] z_Tile).E
      · rw [if_pos hc]; simp [hc]
      · have hd : decide ((rdD s L[x] z_Tile).E = c) = false := decide_eq_false fun e => hc e.symm
        rw [if_neg hc, List.any_cons, List.any_nil, hd, Bool.or_false, Bool.or_false])
    refine ⟨m, ?_, h1⟩
    rw [strip_rest_colours_with_strip_east.l0, if_pos (by simpa using hlt), if_pos (by simp; omega)]
    simp only [rdD_get hlt]
    rw [if_pos hj, hwx]
    show (Option.bind (some (rdD s L[x] z_Tile).E) _) = _
    rw [Option.bind_some]
    exact e1
theorem cols_east (s : List Tile) (L : List Int) (hL : ∀ j ∈ L, 0 ≤ j ∧ j < (s.length : Int)) (hl : L.length ≤ 1000000) {k : Nat} (hk : L.length < k) : ∃ m, strip_rest_colours_with_strip_east k ⟨s, L⟩ = some m ∧ ∀ c, mget c false m = L.any fun j => decide ((rdD s j z_Tile).E = c) := by
  obtain ⟨m, e1, h1⟩ := cols_east_l0 s L hL hl L.length 0 k [] (by omega) hk (fun c => by simp [mget])
  have e1 : strip_rest_colours_with_strip_east.l0 k [] 0 ⟨s, L⟩ = some m := e1
  exact ⟨m, by unfold strip_rest_colours_with_strip_east; rw [e1]; rfl, h1⟩
theorem cols_south_l0 (s : List Tile) (L : List Int) (hL : ∀ j ∈ L, 0 ≤ j ∧ j < (s.length : Int)) (hl : L.length ≤ 1000000) : ∀ (d x k : Nat) (m0 : List (Int × Bool)), x + d = L.length → d < k → (∀ c, mget c false m0 = (L.take x).any fun j => decide ((rdD s j z_Tile).S = c)) →
    ∃ m, strip_rest_colours_with_strip_south.l0 k m0 x ⟨s, L⟩ = some m ∧ ∀ c, mget c false m = L.any fun j => decide ((rdD s j z_Tile).S = c)
  | 0, x, k, m0, e, hk, h => by
    obtain ⟨k, rfl⟩ : ∃ m, k = m + 1 := ⟨k - 1, by omega⟩
    refine ⟨m0, by rw [strip_rest_colours_with_strip_south.l0, if_neg (by simp; omega)], fun c => ?_⟩
    rw [h c, List.take_of_length_le (by omega)]
  | d + 1, x, k, m0, e, hk, h => by
    obtain ⟨k, rfl⟩ : ∃ m, k = m + 1 := ⟨k - 1, by omega⟩
    have hlt : x < L.length := by omega
    have hwx : w64 ((x : Int) + 1) = ((x + 1 : Nat) : Int) := by rw [w64_id (by omega) (by omega)]; rfl
    have hj := hL L[x] (List.getElem_mem hlt)
    obtain ⟨m, e1, h1⟩ := cols_south_l0 s L hL hl d (x + 1) k (mput (rdD s L[x] z_Tile).S true m0) (by omega) (by omega) (fun c => by
      rw [mget_put, h c, List.take_succ_eq_append_getElem hlt, List.any_append]
      by_cases hc : c = (rdD s L[x] z_Tile).S
      · rw [if_pos hc]; simp [hc]
      · have hd : decide ((rdD s L[x] z_Tile).S = c) = false := decide_eq_false fun e => hc e.symm
        rw [if_neg hc, List.any_cons, List.any_nil, hd, Bool.or_false, Bool.or_false])
    refine ⟨m, ?_, h1⟩
    rw [strip_rest_colours_with_strip_south.l0, if_pos (by simpa using hlt), if_pos (by simp; omega)]
    simp only [rdD_get hlt]
    rw [if_pos hj, hwx]
    show (Option.bind (some (rdD s L[x] z_Tile).S) _) = _
    rw [Option.bind_some]
    exact e1
theorem cols_south (s : List Tile) (L : List Int) (hL : ∀ j ∈ L, 0 ≤ j ∧ j < (s.length : Int)) (hl : L.length ≤ 1000000) {k : Nat} (hk : L.length < k) : ∃ m, strip_rest_colours_with_strip_south k ⟨s, L⟩ = some m ∧ ∀ c, mget c false m = L.any fun j => decide ((rdD s j z_Tile).S = c) := by
  obtain ⟨m, e1, h1⟩ := cols_south_l0 s L hL hl L.length 0 k [] (by omega) hk (fun c => by simp [mget])
  have e1 : strip_rest_colours_with_strip_south.l0 k [] 0 ⟨s, L⟩ = some m := e1
  exact ⟨m, by unfold strip_rest_colours_with_strip_south; rw [e1]; rfl, h1⟩
theorem cols_west_l0 (s : List Tile) (L : List Int) (hL : ∀ j ∈ L, 0 ≤ j ∧ j < (s.length : Int)) (hl : L.length ≤ 1000000) : ∀ (d x k : Nat) (m0 : List (Int × Bool)), x + d = L.length → d < k → (∀ c, mget c false m0 = (L.take x).any fun j => decide ((rdD s j z_Tile).W = c)) →
    ∃ m, strip_rest_colours_with_strip_west.l0 k m0 x ⟨s, L⟩ = some m ∧ ∀ c, mget c false m = L.any fun j => decide ((rdD s j z_Tile).W = c)
  | 0, x, k, m0, e, hk, h => by
    obtain ⟨k, rfl⟩ : ∃ m, k = m + 1 := ⟨k - 1, by omega⟩
    refine ⟨m0, by rw [strip_rest_colours_with_strip_west.l0, if_neg (by simp; omega)], fun c => ?_⟩
    rw [h c, List.take_of_length_le (by omega)]
  | d + 1, x, k, m0, e, hk, h => by
    obtain ⟨k, rfl⟩ : ∃ m, k = m + 1 := ⟨k - 1, by omega⟩
    have hlt : x < L.length := by omega
    have hwx : w64 ((x : Int) + 1) = ((x + 1 : Nat) : Int) := by rw [w64_id (by omega) (by omega)]; rfl
    have hj := hL L[x] (List.getElem_mem hlt)
    obtain ⟨m, e1, h1⟩ := cols_west_l0 s L hL hl d (x + 1) k (mput (rdD s L[x] z_Tile).W true m0) (by omega) (by omega) (fun c => by
      rw [mget_put, h c, List.take_succ_eq_append_getElem hlt, List.any_append]
      by_cases hc : c = (rdD s L[x] z_Tile).W
      · rw [if_pos hc]; simp [hc]
      · have hd : decide ((rdD s L[x] z_Tile).W = c) = false := decide_eq_false fun e => hc e.symm
        rw [if_neg hc, List.any_cons, List.any_nil, hd, Bool.or_false, Bool.or_false])
    refine ⟨m, ?_, h1⟩
    rw [strip_rest_colours_with_strip_west.l0, if_pos (by simpa using hlt), if_pos (by simp; omega)]
    simp only [rdD_get hlt]
    rw [if_pos hj, hwx]
    show (Option.bind (some (rdD s L[x] z_Tile).W) _) = _
    rw [Option.bind_some]
    exact e1
theorem cols_west (s : List Tile) (L : List Int) (hL : ∀ j ∈ L, 0 ≤ j ∧ j < (s.length : Int)) (hl : L.length ≤ 1000000) {k : Nat} (hk : L.length < k) : ∃ m, strip_rest_colours_with_strip_west k ⟨s, L⟩ = some m ∧ ∀ c, mget c false m = L.any fun j => decide ((rdD s j z_Tile).W = c) := by
  obtain ⟨m, e1, h1⟩ := cols_west_l0 s L hL hl L.length 0 k [] (by omega) hk (fun c => by simp [mget])
  have e1 : strip_rest_colours_with_strip_west.l0 k [] 0 ⟨s, L⟩ = some m := e1
  exact ⟨m, by unfold strip_rest_colours_with_strip_west; rw [e1]; rfl, h1⟩
def stays (s : List Tile) (L : List Int) (i : Int) : Bool :=
  (((L.any fun j => decide ((rdD s j z_Tile).S = (rdD s i z_Tile).N)) && (L.any fun j => decide ((rdD s j z_Tile).W = (rdD s i z_Tile).E))) && (L.any fun j => decide ((rdD s j z_Tile).N = (rdD s i z_Tile).S))) && (L.any fun j => decide ((rdD s j z_Tile).E = (rdD s i z_Tile).W))
def thinL (s : List Tile) (L : List Int) : List Int := L.filter (stays s L)
theorem kept_l0 (s : List Tile) (L : List Int) (hL : ∀ j ∈ L, 0 ≤ j ∧ j < (s.length : Int)) (hl : L.length ≤ 1000000) (K : List Int) (ms mw mn me : List (Int × Bool)) (p : Int → Bool)
    (hp : ∀ i, ((((mget ((rdD s i z_Tile).N) false ms) && (mget ((rdD s i z_Tile).E) false mw)) && (mget ((rdD s i z_Tile).S) false mn)) && (mget ((rdD s i z_Tile).W) false me)) = p i) : ∀ (d x k : Nat) (acc : List Int), x + d = L.length → d < k → acc.length ≤ x →
    strip_kept_int_with_strip_rest_thin_1.l0 k acc x L ⟨s, K⟩ ms mw mn me = some (acc ++ (L.drop x).filter p)
  | 0, x, k, acc, e, hk, ha => by
    obtain ⟨k, rfl⟩ : ∃ m, k = m + 1 := ⟨k - 1, by omega⟩
    rw [strip_kept_int_with_strip_rest_thin_1.l0, if_neg (by simp; omega), List.drop_of_length_le (by omega)]; simp
  | d + 1, x, k, acc, e, hk, ha => by
    obtain ⟨k, rfl⟩ : ∃ m, k = m + 1 := ⟨k - 1, by omega⟩
    have hlt : x < L.length := by omega
    have hwx : w64 ((x : Int) + 1) = ((x + 1 : Nat) : Int) := by rw [w64_id (by omega) (by omega)]; rfl
    have hj := hL L[x] (List.getElem_mem hlt)
    have h1 : strip_rest_thin_1 L[x] ⟨s, K⟩ ms mw mn me = some (p L[x]) := by
      unfold strip_rest_thin_1
      rw [if_pos hj, hp]
    rw [strip_kept_int_with_strip_rest_thin_1.l0, if_pos (by simpa using hlt), if_pos (show 0 ≤ (x : Int) ∧ (x : Int) < (L.length : Int) by omega), rdD_get hlt, h1, Option.bind_some, hwx, List.drop_eq_getElem_cons hlt, List.filter_cons]
    cases hb : p L[x]
    · rw [if_neg (by simp), Option.bind_some, kept_l0 s L hL hl K ms mw mn me p hp d (x + 1) k acc (by omega) (by omega) (by omega), if_neg (by simp)]
    · rw [if_pos rfl, if_pos (by simp; omega), Option.bind_some, kept_l0 s L hL hl K ms mw mn me p hp d (x + 1) k _ (by omega) (by omega) (by simp; omega), if_pos rfl]
      simp
theorem thin_eq (s : List Tile) (L : List Int) (hL : ∀ j ∈ L, 0 ≤ j ∧ j < (s.length : Int)) (hl : L.length ≤ 1000000) {k : Nat} (hk : L.length < k) : strip_rest_thin k ⟨s, L⟩ = some (decide ((thinL s L).length < L.length), ⟨s, thinL s L⟩) := by
  obtain ⟨mn, e1, h1⟩ := cols_north s L hL hl hk
  obtain ⟨me, e2, h2⟩ := cols_east s L hL hl hk
  obtain ⟨ms, e3, h3⟩ := cols_south s L hL hl hk
  obtain ⟨mw, e4, h4⟩ := cols_west s L hL hl hk
  have hk0 := kept_l0 s L hL hl L ms mw mn me (stays s L) (fun i => by rw [h1, h2, h3, h4]; rfl) L.length 0 k [] (by omega) hk (by simp)
  have hk0 : strip_kept_int_with_strip_rest_thin_1.l0 k [] 0 L ⟨s, L⟩ ms mw mn me = _ := hk0
  unfold strip_rest_thin
  rw [e1, Option.bind_some, e2, Option.bind_some, e3, Option.bind_some, e4, Option.bind_some]
  unfold strip_kept_int_with_strip_rest_thin_1
  rw [hk0, Option.bind_some, Option.bind_some, List.drop_zero, List.nil_append]
  show some (decide (((thinL s L).length : Int) < (L.length : Int)), _) = _
  congr 2
  rw [Bool.eq_iff_iff]; simp
def coreI (s : List Tile) : Nat → List Int → List Int
  | 0, L => L
  | f + 1, L => if (thinL s L).length < L.length then coreI s f (thinL s L) else L
theorem thin_sub (s : List Tile) (L : List Int) : (thinL s L).Sublist L := List.filter_sublist
theorem thin_same {s : List Tile} {L : List Int} (h : ¬ (thinL s L).length < L.length) : thinL s L = L := (thin_sub s L).eq_of_length_le (by omega)
theorem core_l1 (s : List Tile) : ∀ (f k : Nat) (L : List Int), L.length ≤ f → f + L.length + 1 < k → L.length ≤ 1000000 → (∀ j ∈ L, 0 ≤ j ∧ j < (s.length : Int)) → strip_Core.l1 k L s = some (coreI s (f + 1) L)
  | f, k, L, hf, hk, hl, hL => by
    obtain ⟨k, rfl⟩ : ∃ m, k = m + 1 := ⟨k - 1, by omega⟩
    rw [strip_Core.l1, thin_eq s L hL hl (by omega), Option.bind_some, coreI]
    by_cases h : (thinL s L).length < L.length
    · obtain ⟨f, rfl⟩ : ∃ m, f = m + 1 := ⟨f - 1, by omega⟩
      rw [if_pos (by simpa using h), if_pos h]
      exact core_l1 s f k (thinL s L) (by omega) (by omega) (by omega) (fun j hj => hL j ((thin_sub s L).subset hj))
    · rw [if_neg (by simpa using h), if_neg h, thin_same h]
  termination_by f => f
theorem core_fix (s : List Tile) : ∀ (f : Nat) (L : List Int), L.length ≤ f → thinL s (coreI s (f + 1) L) = coreI s (f + 1) L ∧ (coreI s (f + 1) L).Sublist L
  | f, L, hf => by
    rw [coreI]
    by_cases h : (thinL s L).length < L.length
    · obtain ⟨f, rfl⟩ : ∃ m, f = m + 1 := ⟨f - 1, by omega⟩
      rw [if_pos h]
      obtain ⟨h1, h2⟩ := core_fix s f (thinL s L) (by omega)
      exact ⟨h1, h2.trans (thin_sub s L)⟩
    · rw [if_neg h]
      exact ⟨thin_same h, List.Sublist.refl _⟩
  termination_by f => f
theorem core_keep (s : List Tile) (T : List Int) (hT : ∀ i ∈ T, stays s T i = true) : ∀ (f : Nat) (L : List Int), (∀ i ∈ T, i ∈ L) → ∀ i ∈ T, i ∈ coreI s f L
  | 0, L, h, i, hi => h i hi
  | f + 1, L, h, i, hi => by
    rw [coreI]
    split
    · refine core_keep s T hT f _ (fun j hj => List.mem_filter.2 ⟨h j hj, ?_⟩) i hi
      have := hT j hj
      unfold stays at this ⊢
      simp only [Bool.and_eq_true, List.any_eq_true] at this ⊢
      obtain ⟨⟨⟨⟨a, ha, ha2⟩, ⟨b, hb, hb2⟩⟩, ⟨c, hc, hc2⟩⟩, ⟨d, hd, hd2⟩⟩ := this
      exact ⟨⟨⟨⟨a, h a ha, ha2⟩, ⟨b, h b hb, hb2⟩⟩, ⟨c, h c hc, hc2⟩⟩, ⟨d, h d hd, hd2⟩⟩
    · exact h i hi
def idxL (n : Nat) : List Int := (List.range n).map fun (i : Nat) => (i : Int)
theorem core_l0 (s : List Tile) (hl : s.length ≤ 1000000) : ∀ (d x k : Nat), x + d = s.length → d < k → strip_Core.l0 k (idxL x) x s = some (idxL s.length)
  | 0, x, k, e, hk => by
    obtain ⟨k, rfl⟩ : ∃ m, k = m + 1 := ⟨k - 1, by omega⟩
    rw [strip_Core.l0, if_neg (by simp; omega), show x = s.length by omega]
  | d + 1, x, k, e, hk => by
    obtain ⟨k, rfl⟩ : ∃ m, k = m + 1 := ⟨k - 1, by omega⟩
    have hwx : w64 ((x : Int) + 1) = ((x + 1 : Nat) : Int) := by rw [w64_id (by omega) (by omega)]; rfl
    rw [strip_Core.l0, if_pos (by simp; omega), if_pos (by simp [idxL]; omega), hwx]
    have : idxL x ++ [(x : Int)] = idxL (x + 1) := by simp [idxL, List.range_succ]
    rw [this]
    exact core_l0 s hl d (x + 1) k (by omega) (by omega)
def coreC (s : List Tile) : List Int := coreI s (s.length + 1) (idxL s.length)
theorem core_eq {s : List Tile} (hv : validT s = true) {k : Nat} (hk : 10000 < k) : strip_Core k s = some (coreC s, 0) := by
  have hl := valid_len hv
  have h0 := core_l0 s (by omega) s.length 0 k (by omega) (by omega)
  have h0 : strip_Core.l0 k [] 0 s = some (idxL s.length) := h0
  have hlen : (idxL s.length).length = s.length := by simp [idxL]
  have h1 := core_l1 s s.length k (idxL s.length) (by omega) (by omega) (by omega) (fun j hj => by
    unfold idxL at hj
    obtain ⟨i, hi, rfl⟩ := List.mem_map.1 hj
    have := List.mem_range.1 hi
    omega)
  unfold strip_Core
  rw [tile_valid s (by omega) (by omega), Option.bind_some, hv, if_neg (by decide), h0, Option.bind_some, h1]; rfl
end Gp
set_option linter.unusedVariables false
set_option linter.unusedSimpArgs false
namespace Gp
open Gw Gq
theorem idx_rng {n : Nat} {j : Int} (h : j ∈ idxL n) : 0 ≤ j ∧ j < (n : Int) := by
  unfold idxL at h
  obtain ⟨i, hi, rfl⟩ := List.mem_map.1 h
  have := List.mem_range.1 hi
  omega
theorem coreC_sub (s : List Tile) : (coreC s).Sublist (idxL s.length) := (core_fix s s.length (idxL s.length) (by simp [idxL])).2
theorem coreC_fix (s : List Tile) : thinL s (coreC s) = coreC s := (core_fix s s.length (idxL s.length) (by simp [idxL])).1
end Gp
set_option linter.unusedVariables false
set_option linter.unusedSimpArgs false
namespace Gp
open Gw Gq
end Gp
set_option linter.unusedVariables false
set_option linter.unusedSimpArgs false
namespace Gp
open Gw Gq
end Gp
set_option linter.unusedVariables false
set_option linter.unusedSimpArgs false
namespace Gp
open Gw Gq
def leadN (north : Bool) (x y : Tile) : Bool := if north = true then x.N == y.S else x.E == y.W
theorem leads_eq4 (x y : Tile) (n : Bool) : ref04_Leads x y n = some (leadN n x y) := by cases n <;> rfl
def relN (north back : Bool) (x y : Tile) : Bool := if back = true then leadN north y x else leadN north x y
def endN (s : List Tile) (I : Nat → Bool) (north back : Bool) : Nat → Nat → Bool
  | 0, i => I i
  | n + 1, i => I i && (List.range s.length).any fun k => endN s I north back n k && relN north back (rdD s (i : Int) z_Tile) (rdD s (k : Int) z_Tile)
theorem end_l2 {s : List Tile} (hls : s.length ≤ 1000) (north back : Bool) {inn can : List Bool} (hin : inn.length = s.length) (hcan : can.length = s.length) {i : Nat} (hi : i < s.length) : ∀ (d x k : Nat) (nx : List Bool), x + d = s.length → d < k → (hn : nx.length = s.length) →
    ref04_endless.l2 k nx x s inn north back can i = some (nx.set i (nx[i] || (inn[i] && (List.range' x d).any fun j => can.getD j false && relN north back s[i] (s.getD j z_Tile))))
  | 0, x, k, nx, e, hk, hn => by
    obtain ⟨k, rfl⟩ : ∃ m, k = m + 1 := ⟨k - 1, by omega⟩
    rw [ref04_endless.l2, if_neg (show ¬ (decide ((x : Int) < (s.length : Int)) = true) by simp; omega), Option.bind_some, if_neg (show ¬ (false = true) by simp), Option.bind_some, if_neg (show ¬ (false = true) by simp), List.range'_zero, List.any_nil, Bool.and_false, Bool.or_false, set_id nx (by omega) rfl]
  | d + 1, x, k, nx, e, hk, hn => by
    obtain ⟨k, rfl⟩ : ∃ m, k = m + 1 := ⟨k - 1, by omega⟩
    have hlt : x < s.length := by omega
    have hwx : w64 ((x : Int) + 1) = ((x + 1 : Nat) : Int) := by rw [w64_id (by omega) (by omega)]; rfl
    have c1 : 0 ≤ (x : Int) ∧ (x : Int) < (s.length : Int) := by omega
    have c2 : 0 ≤ (i : Int) ∧ (i : Int) < (s.length : Int) := by omega
    have c3 : 0 ≤ (i : Int) ∧ (i : Int) < (inn.length : Int) := by omega
    have c4 : 0 ≤ (i : Int) ∧ (i : Int) < (nx.length : Int) := by omega
    have c5 : 0 ≤ (x : Int) ∧ (x : Int) < (can.length : Int) := by omega
    have ri : rdD inn (i : Int) false = inn[i] := rdD_get (by omega) _
    have rn : rdD nx (i : Int) false = nx[i] := rdD_get (by omega) _
    have rc : rdD can (x : Int) false = can[x] := rdD_get (by omega) _
    have gc : can.getD x false = can[x] := by rw [List.getD_eq_getElem?_getD, List.getElem?_eq_getElem (by omega)]; rfl
    have gs : s.getD x z_Tile = s[x] := by rw [List.getD_eq_getElem?_getD, List.getElem?_eq_getElem hlt]; rfl
    have next : ∀ v : Bool, inn[i] = true → ref04_endless.l2 k (nx.set i v) ((x + 1 : Nat) : Int) s inn north back can i = some (nx.set i (v || (List.range' (x + 1) d).any fun j => can.getD j false && relN north back s[i] (s.getD j z_Tile))) := fun v hv => by
      rw [end_l2 hls north back hin hcan hi d (x + 1) k (nx.set i v) (by omega) (by omega) (by simpa using hn)]
      simp [hv]
    rw [ref04_endless.l2, if_pos (show decide ((x : Int) < (s.length : Int)) = true by simpa using hlt), if_pos c3, ri, Option.bind_some, List.range'_succ, List.any_cons, gc, gs]
    cases hb : inn[i]
    · rw [if_neg (show ¬ (false = true) by simp), Option.bind_some, if_neg (show ¬ (false = true) by simp), Bool.false_and, Bool.or_false, set_id nx (by omega) rfl]
    rw [if_pos rfl, if_pos c4, rn, Option.bind_some]
    cases hx : nx[i]
    rotate_left
    · rw [if_neg (by simp), Bool.true_or, ← hx, set_id nx (by omega) rfl]
    rw [if_pos (by simp), Bool.false_or, Bool.true_and]
    simp only [if_pos c1, if_pos c2, if_pos c4, if_pos c5, rc, rdD_get hlt, rdD_get hi, leads_eq4, Option.bind_some, Int.toNat_natCast, hwx]
    cases hc : can[x]
    · cases back <;> simp only [Bool.false_eq_true, if_false, if_true, Bool.not_true, Bool.not_false, Option.bind_some, next _ hb, Bool.false_and, Bool.false_or]
    · cases back <;> simp only [Bool.false_eq_true, if_false, if_true, Bool.not_true, Bool.not_false, Option.bind_some, next _ hb, Bool.true_and, relN]
end Gp
set_option linter.unusedVariables false
set_option linter.unusedSimpArgs false
namespace Gp
open Gw Gq
def endL (s : List Tile) (I : Nat → Bool) (north back : Bool) (n : Nat) : List Bool := (List.range s.length).map (endN s I north back n)
def bitsL (s : List Tile) (I : Nat → Bool) : List Bool := (List.range s.length).map I
theorem any_cong {α : Type} {f g : α → Bool} : ∀ {l : List α}, (∀ x ∈ l, f x = g x) → l.any f = l.any g
  | [], _ => rfl
  | a :: l, h => by rw [List.any_cons, List.any_cons, h a (by simp), any_cong fun x hx => h x (by simp [hx])]
theorem endL_get {s : List Tile} {I : Nat → Bool} {north back : Bool} {n j : Nat} (h : j < s.length) : (endL s I north back n).getD j false = endN s I north back n j := by
  simp [endL, List.getD_eq_getElem?_getD, List.getElem?_map, List.getElem?_range h]
theorem end_l1 {s : List Tile} (hls : s.length ≤ 1000) (north back : Bool) (I : Nat → Bool) (n : Nat) : ∀ (d x k : Nat) (nx : List Bool), x + d = s.length → d + 1001 < k → (hn : nx.length = s.length) →
    (∀ (i : Nat) (h : i < nx.length), nx[i] = if i < x then endN s I north back (n + 1) i else false) → ref04_endless.l1 k nx x s (bitsL s I) north back (endL s I north back n) = some (endL s I north back (n + 1))
  | 0, x, k, nx, e, hk, hn, hx => by
    obtain ⟨k, rfl⟩ : ∃ m, k = m + 1 := ⟨k - 1, by omega⟩
    have : nx = endL s I north back (n + 1) := by
      apply List.ext_getElem (by simp [endL, hn])
      intro i h1 h2
      rw [hx i h1, if_pos (by omega)]; simp [endL]
    rw [ref04_endless.l1, if_neg (by simp; omega), this]
  | d + 1, x, k, nx, e, hk, hn, hx => by
    obtain ⟨k, rfl⟩ : ∃ m, k = m + 1 := ⟨k - 1, by omega⟩
    have hlt : x < s.length := by omega
    have hwx : w64 ((x : Int) + 1) = ((x + 1 : Nat) : Int) := by rw [w64_id (by omega) (by omega)]; rfl
    have l2 := end_l2 hls north back (inn := bitsL s I) (can := endL s I north back n) (by simp [bitsL]) (by simp [endL]) hlt s.length 0 k nx (by omega) (by omega) hn
    have l2 : ref04_endless.l2 k nx 0 s (bitsL s I) north back (endL s I north back n) x = _ := l2
    have hb : (bitsL s I)[x]'(by simp [bitsL]; omega) = I x := by simp [bitsL]
    have hv : (nx[x]'(by omega) || ((bitsL s I)[x]'(by simp [bitsL]; omega) && (List.range' 0 s.length).any fun j => (endL s I north back n).getD j false && relN north back s[x] (s.getD j z_Tile))) = endN s I north back (n + 1) x := by
      rw [hx x (by omega), if_neg (by omega), Bool.false_or, hb, endN, List.range_eq_range']
      congr 1
      refine any_cong fun j hj => ?_
      have hj2 : j < s.length := by have := List.mem_range'_1.1 hj; omega
      rw [endL_get hj2, rdD_get hlt]; rfl
    rw [ref04_endless.l1, if_pos (by simpa using hlt), l2, Option.bind_some, hwx, hv]
    refine end_l1 hls north back I n d (x + 1) k _ (by omega) (by omega) (by simpa using hn) fun i h => ?_
    rw [List.getElem_set]
    split
    · rename_i e2; subst e2; rw [if_pos (by omega)]
    · rename_i e2
      rw [hx i (by simpa using h)]
      by_cases h3 : i < x
      · rw [if_pos h3, if_pos (by omega)]
      · rw [if_neg h3, if_neg (by omega)]
end Gp
set_option linter.unusedVariables false
set_option linter.unusedSimpArgs false
namespace Gp
open Gw Gq
theorem end_l0 {s : List Tile} (hls : s.length ≤ 1000) (north back : Bool) (I : Nat → Bool) : ∀ (d x k : Nat), x + d = s.length → d + 3001 < k → ref04_endless.l0 k (endL s I north back x) x s (bitsL s I) north back = some (endL s I north back s.length)
  | 0, x, k, e, hk => by
    obtain ⟨k, rfl⟩ : ∃ m, k = m + 1 := ⟨k - 1, by omega⟩
    rw [ref04_endless.l0, if_neg (by simp; omega), show x = s.length by omega]
  | d + 1, x, k, e, hk => by
    obtain ⟨k, rfl⟩ : ∃ m, k = m + 1 := ⟨k - 1, by omega⟩
    have hwx : w64 ((x : Int) + 1) = ((x + 1 : Nat) : Int) := by rw [w64_id (by omega) (by omega)]; rfl
    have l1 := end_l1 hls north back I x s.length 0 k (List.replicate s.length false) (by omega) (by omega) (by simp) (fun i h => by simp)
    have l1 : ref04_endless.l1 k (List.replicate s.length false) 0 s (bitsL s I) north back (endL s I north back x) = _ := l1
    rw [ref04_endless.l0, if_pos (by simp; omega), if_pos (by omega), Int.toNat_natCast, l1, Option.bind_some, hwx]
    exact end_l0 hls north back I d (x + 1) k (by omega) (by omega)
theorem endless_eq {s : List Tile} (hls : s.length ≤ 1000) (north back : Bool) (I : Nat → Bool) {k : Nat} (hk : 5001 < k) : ref04_endless k s (bitsL s I) north back = some (endL s I north back s.length) := by
  have h := end_l0 hls north back I s.length 0 k (by omega) (by omega)
  have h : ref04_endless.l0 k (bitsL s I) 0 s (bitsL s I) north back = _ := h
  have hlen : (bitsL s I).length = s.length := by simp [bitsL]
  unfold ref04_endless
  rw [if_pos (by simp; omega), List.nil_append, h]; rfl
def all4 (s : List Tile) (I : Nat → Bool) (i : Nat) : Bool := endN s I false false s.length i && (endN s I false true s.length i && (endN s I true false s.length i && endN s I true true s.length i))
theorem rc_l2 {s : List Tile} (hls : s.length ≤ 1000) (I : Nat → Bool) {k : Nat} (hk : 5010 < k) : ref04_Core.l2 k [] [] [] [] 0 s (bitsL s I) = some (endL s I false false s.length, endL s I false true s.length, endL s I true false s.length, endL s I true true s.length) := by
  obtain ⟨k, rfl⟩ : ∃ m, k = m + 5 := ⟨k - 5, by omega⟩
  rw [ref04_Core.l2, if_pos (by decide), show decide ((0 : Int) ≥ 2) = false by decide, show (Int.tmod 0 2 == 1) = false by decide, endless_eq hls false false I (by omega), Option.bind_some, if_pos (by decide), show w64 (0 + 1) = 1 by decide]
  rw [ref04_Core.l2, if_pos (by decide), show decide ((1 : Int) ≥ 2) = false by decide, show (Int.tmod 1 2 == 1) = true by decide, endless_eq hls false true I (by omega), Option.bind_some, if_neg (by decide), if_pos (by decide), show w64 (1 + 1) = 2 by decide]
  rw [ref04_Core.l2, if_pos (by decide), show decide ((2 : Int) ≥ 2) = true by decide, show (Int.tmod 2 2 == 1) = false by decide, endless_eq hls true false I (by omega), Option.bind_some, if_neg (by decide), if_neg (by decide), if_pos (by decide), show w64 (2 + 1) = 3 by decide]
  rw [ref04_Core.l2, if_pos (by decide), show decide ((3 : Int) ≥ 2) = true by decide, show (Int.tmod 3 2 == 1) = true by decide, endless_eq hls true true I (by omega), Option.bind_some, if_neg (by decide), if_neg (by decide), if_neg (by decide), if_pos (by decide), show w64 (3 + 1) = 4 by decide]
  rw [ref04_Core.l2, if_neg (by decide)]
def refJ (s : List Tile) (I : Nat → Bool) (i : Nat) : Bool := I i && all4 s I i
theorem rc_l3 {s : List Tile} (hls : s.length ≤ 1000) (I : Nat → Bool) : ∀ (d x k : Nat) (L : List Bool) (m : Bool), x + d = s.length → d < k → (hL : L.length = s.length) → (∀ (i : Nat) (h : i < L.length), L[i] = if i < x then refJ s I i else I i) → m = (List.range x).any (fun i => I i && !all4 s I i) →
    ref04_Core.l3 k L m x s (endL s I false false s.length, endL s I false true s.length, endL s I true false s.length, endL s I true true s.length) = some (bitsL s (refJ s I), (List.range s.length).any fun i => I i && !all4 s I i)
  | 0, x, k, L, m, e, hk, hL, hx, hm => by
    obtain ⟨k, rfl⟩ : ∃ m, k = m + 1 := ⟨k - 1, by omega⟩
    have : L = bitsL s (refJ s I) := by
      apply List.ext_getElem (by simp [bitsL, hL])
      intro i h1 h2
      rw [hx i h1, if_pos (by omega)]; simp [bitsL]
    rw [ref04_Core.l3, if_neg (by simp; omega), this, hm, show x = s.length by omega]
  | d + 1, x, k, L, m, e, hk, hL, hx, hm => by
    obtain ⟨k, rfl⟩ : ∃ m, k = m + 1 := ⟨k - 1, by omega⟩
    have hlt : x < s.length := by omega
    have hwx : w64 ((x : Int) + 1) = ((x + 1 : Nat) : Int) := by rw [w64_id (by omega) (by omega)]; rfl
    have lE : ∀ a b, (endL s I a b s.length).length = s.length := fun a b => by simp [endL]
    have rE : ∀ a b, rdD (endL s I a b s.length) (x : Int) false = endN s I a b s.length x := fun a b => endL_get hlt
    have c1 : ∀ a b, 0 ≤ (x : Int) ∧ (x : Int) < ((endL s I a b s.length).length : Int) := fun a b => by rw [lE]; omega
    have rL : rdD L (x : Int) false = I x := by rw [rdD_get (by omega), hx x (by omega), if_neg (by omega)]
    rw [ref04_Core.l3, if_pos (by simpa using hlt), if_pos (show 0 ≤ (x : Int) ∧ (x : Int) < (L.length : Int) by omega), rL]
    simp only [if_pos (c1 _ _), rE]
    have key : (if I x = true then ((if endN s I false false s.length x = true then (some (endN s I false true s.length x)) else (some false)).bind fun b1 => (if b1 = true then (some (endN s I true false s.length x)) else (some false)).bind fun b2 => (if b2 = true then (some (endN s I true true s.length x)) else (some false)).bind fun b3 => some (!b3)) else (some false)) = some (I x && !all4 s I x) := by
      unfold all4
      cases I x <;> cases endN s I false false s.length x <;> cases endN s I false true s.length x <;> cases endN s I true false s.length x <;> rfl
    rw [key, Option.bind_some, hwx]
    have hr : (List.range (x + 1)).any (fun i => I i && !all4 s I i) = (m || (I x && !all4 s I x)) := by rw [List.range_succ, List.any_append, ← hm]; simp
    cases hb : I x && !all4 s I x
    · rw [if_neg (by simp), Option.bind_some]
      refine rc_l3 hls I d (x + 1) k L m (by omega) (by omega) hL (fun i h => ?_) (by rw [hr, hb, Bool.or_false])
      rw [hx i h]
      by_cases h3 : i < x
      · rw [if_pos h3, if_pos (by omega)]
      · rw [if_neg h3]
        by_cases h4 : i = x
        · subst h4
          rw [if_pos (by omega)]; unfold refJ
          cases hI : I i <;> cases ha : all4 s I i <;> simp_all
        · rw [if_neg (by omega)]
    · rw [if_pos rfl, Option.bind_some, Int.toNat_natCast]
      refine rc_l3 hls I d (x + 1) k _ true (by omega) (by omega) (by simpa using hL) (fun i h => ?_) (by rw [hr, hb, Bool.or_true])
      rw [List.getElem_set]
      split
      · rename_i e2; subst e2
        rw [if_pos (by omega)]; unfold refJ
        cases hI : I x <;> cases ha : all4 s I x <;> simp_all
      · rename_i e2
        rw [hx i (by simpa using h)]
        by_cases h3 : i < x
        · rw [if_pos h3, if_pos (by omega)]
        · rw [if_neg h3, if_neg (by omega)]
end Gp
set_option linter.unusedVariables false
set_option linter.unusedSimpArgs false
namespace Gp
open Gw Gq
theorem endN_in {s : List Tile} {I : Nat → Bool} {a b : Bool} : ∀ {n i : Nat}, endN s I a b n i = true → I i = true
  | 0, i, h => h
  | n + 1, i, h => by unfold endN at h; rw [Bool.and_eq_true] at h; exact h.1
theorem all4_stays {s : List Tile} {I : Nat → Bool} (h : ∀ i, i < s.length → I i = true → all4 s I i = true) : ∀ i ∈ (idxL s.length).filter fun i => I i.toNat, stays s ((idxL s.length).filter fun i => I i.toNat) i = true := by
  intro i hi
  obtain ⟨h1, h2⟩ := List.mem_filter.1 hi
  have hr := idx_rng h1
  obtain ⟨n, rfl⟩ : ∃ n : Nat, i = n := ⟨i.toNat, by omega⟩
  rw [Int.toNat_natCast] at h2
  have ha := h n (by omega) h2
  obtain ⟨m, hm⟩ : ∃ m, s.length = m + 1 := ⟨s.length - 1, by omega⟩
  have nb : ∀ a b, endN s I a b s.length n = true → ∃ k ∈ (idxL s.length).filter (fun i => I i.toNat), relN a b (rdD s (n : Int) z_Tile) (rdD s k z_Tile) = true := fun a b hb => by
    rw [hm] at hb
    unfold endN at hb
    rw [Bool.and_eq_true, List.any_eq_true] at hb
    obtain ⟨_, k, hk, hk2⟩ := hb
    rw [Bool.and_eq_true] at hk2
    have hk3 := List.mem_range.1 hk
    exact ⟨(k : Int), List.mem_filter.2 ⟨List.mem_map.2 ⟨k, List.mem_range.2 hk3, rfl⟩, by rw [Int.toNat_natCast]; exact endN_in hk2.1⟩, hk2.2⟩
  unfold all4 at ha
  simp only [Bool.and_eq_true] at ha
  obtain ⟨a, ha1, ha2⟩ := nb false false ha.1
  obtain ⟨b, hb1, hb2⟩ := nb false true ha.2.1
  obtain ⟨c, hc1, hc2⟩ := nb true false ha.2.2.1
  obtain ⟨d, hd1, hd2⟩ := nb true true ha.2.2.2
  simp only [relN, leadN, Bool.false_eq_true, if_false, if_true, beq_iff_eq] at ha2 hb2 hc2 hd2
  unfold stays
  simp only [Bool.and_eq_true, List.any_eq_true, decide_eq_true_eq]
  exact ⟨⟨⟨⟨c, hc1, hc2.symm⟩, ⟨a, ha1, ha2.symm⟩⟩, ⟨d, hd1, hd2⟩⟩, ⟨b, hb1, hb2⟩⟩
theorem end_keep {s : List Tile} {T : List Int} (hT : ∀ i ∈ T, stays s T i = true) (hr : ∀ i ∈ T, 0 ≤ i ∧ i < (s.length : Int)) {I : Nat → Bool} (hI : ∀ i ∈ T, I i.toNat = true) (a b : Bool) : ∀ (n : Nat), ∀ i ∈ T, endN s I a b n i.toNat = true
  | 0, i, hi => hI i hi
  | n + 1, i, hi => by
    have h := hT i hi
    have hri := hr i hi
    have ei : ((i.toNat : Nat) : Int) = i := by omega
    unfold stays at h
    simp only [Bool.and_eq_true, List.any_eq_true, decide_eq_true_eq] at h
    obtain ⟨⟨⟨⟨c, hc1, hc2⟩, ⟨e, he1, he2⟩⟩, ⟨d, hd1, hd2⟩⟩, ⟨f, hf1, hf2⟩⟩ := h
    have go : ∀ k ∈ T, relN a b (rdD s i z_Tile) (rdD s k z_Tile) = true → endN s I a b (n + 1) i.toNat = true := fun k hk hrel => by
      unfold endN
      rw [hI i hi, Bool.true_and, List.any_eq_true]
      have hrk := hr k hk
      have ek : ((k.toNat : Nat) : Int) = k := by omega
      exact ⟨k.toNat, List.mem_range.2 (by omega), by rw [end_keep hT hr hI a b n k hk, Bool.true_and, ei, ek]; exact hrel⟩
    cases a <;> cases b
    · exact go e he1 (by simp [relN, leadN, he2])
    · exact go f hf1 (by simp [relN, leadN, hf2])
    · exact go c hc1 (by simp [relN, leadN, hc2])
    · exact go d hd1 (by simp [relN, leadN, hd2])
theorem bits_cong {s : List Tile} {I J : Nat → Bool} (h : ∀ i, i < s.length → I i = J i) : bitsL s I = bitsL s J := by
  unfold bitsL
  exact List.map_congr_left fun i hi => h i (List.mem_range.1 hi)
theorem count_lt {p q : Nat → Bool} (h : ∀ j, p j = true → q j = true) : ∀ {l : List Nat} {i : Nat}, i ∈ l → q i = true → p i = false → l.countP p < l.countP q
  | a :: l, i, hi, hq, hp => by
    have hle : l.countP p ≤ l.countP q := List.countP_mono_left fun x _ hx => h x hx
    rw [List.countP_cons, List.countP_cons]
    rcases List.mem_cons.1 hi with e | hi
    · subst e; rw [hq, hp]; simp; omega
    · have := count_lt h hi hq hp
      cases hpa : p a
      · simp; omega
      · rw [h a hpa]; simp; omega
theorem rc_l1 {s : List Tile} (hls : s.length ≤ 1000) : ∀ (f k : Nat) (I : Nat → Bool), ((List.range s.length).countP I) ≤ f → f + 6100 < k → (∀ T : List Int, (∀ i ∈ T, stays s T i = true) → (∀ i ∈ T, 0 ≤ i ∧ i < (s.length : Int)) → ∀ i ∈ T, I i.toNat = true) →
    ∃ J : Nat → Bool, ref04_Core.l1 k (bitsL s I) true s = some (bitsL s J) ∧ (∀ i, i < s.length → J i = true → all4 s J i = true) ∧ (∀ T : List Int, (∀ i ∈ T, stays s T i = true) → (∀ i ∈ T, 0 ≤ i ∧ i < (s.length : Int)) → ∀ i ∈ T, J i.toNat = true)
  | f, k, I, hf, hk, hI => by
    obtain ⟨k, rfl⟩ : ∃ m, k = m + 2 := ⟨k - 2, by omega⟩
    have l3 := rc_l3 hls I s.length 0 (k + 1) (bitsL s I) false (by omega) (by omega) (by simp [bitsL]) (fun i h => by simp [bitsL]) (by simp)
    have l3 : ref04_Core.l3 (k + 1) (bitsL s I) false 0 s (endL s I false false s.length, endL s I false true s.length, endL s I true false s.length, endL s I true true s.length) = _ := l3
    rw [ref04_Core.l1, if_pos rfl, rc_l2 hls I (by omega), Option.bind_some, l3, Option.bind_some]
    have hJ : ∀ T : List Int, (∀ i ∈ T, stays s T i = true) → (∀ i ∈ T, 0 ≤ i ∧ i < (s.length : Int)) → ∀ i ∈ T, refJ s I i.toNat = true := fun T h1 h2 i hi => by
      unfold refJ all4
      simp only [Bool.and_eq_true]
      exact ⟨hI T h1 h2 i hi, end_keep h1 h2 (hI T h1 h2) false false _ i hi, end_keep h1 h2 (hI T h1 h2) false true _ i hi, end_keep h1 h2 (hI T h1 h2) true false _ i hi, end_keep h1 h2 (hI T h1 h2) true true _ i hi⟩
    cases hb : (List.range s.length).any fun i => I i && !all4 s I i
    · refine ⟨I, ?_, fun i hi h => ?_, hI⟩
      · show ref04_Core.l1 (k + 1) (bitsL s (refJ s I)) false s = _
        rw [ref04_Core.l1, if_neg (by simp)]
        congr 1
        refine bits_cong fun i hi => ?_
        rw [List.any_eq_false] at hb
        have := hb i (List.mem_range.2 hi)
        unfold refJ
        cases h1 : I i <;> cases h2 : all4 s I i <;> simp_all
      · rw [List.any_eq_false] at hb
        have := hb i (List.mem_range.2 hi)
        rw [h] at this
        simpa using this
    · rw [List.any_eq_true] at hb
      obtain ⟨i, hi, hb2⟩ := hb
      rw [Bool.and_eq_true] at hb2
      have hlt : (List.range s.length).countP (refJ s I) < (List.range s.length).countP I := count_lt (fun j h => by unfold refJ at h; rw [Bool.and_eq_true] at h; exact h.1) hi hb2.1 (by unfold refJ; rw [Bool.not_eq_true'] at hb2; rw [hb2.2, Bool.and_false])
      obtain ⟨f, rfl⟩ : ∃ m, f = m + 1 := ⟨f - 1, by omega⟩
      exact rc_l1 hls f (k + 1) (refJ s I) (by omega) (by omega) hJ
  termination_by f => f
end Gp
set_option linter.unusedVariables false
set_option linter.unusedSimpArgs false
namespace Gp
open Gw Gq
theorem rc_l0 {s : List Tile} (hls : s.length ≤ 1000) : ∀ (d x k : Nat) (L : List Bool), x + d = s.length → d < k → (hL : L.length = s.length) → (∀ (i : Nat) (h : i < L.length), i < x → L[i] = true) → ref04_Core.l0 k L x s = some (bitsL s fun _ => true)
  | 0, x, k, L, e, hk, hL, hx => by
    obtain ⟨k, rfl⟩ : ∃ m, k = m + 1 := ⟨k - 1, by omega⟩
    have : L = bitsL s fun _ => true := by
      apply List.ext_getElem (by simp [bitsL, hL])
      intro i h1 h2
      rw [hx i h1 (by omega)]; simp [bitsL]
    rw [ref04_Core.l0, if_neg (by simp; omega), this]
  | d + 1, x, k, L, e, hk, hL, hx => by
    obtain ⟨k, rfl⟩ : ∃ m, k = m + 1 := ⟨k - 1, by omega⟩
    have hwx : w64 ((x : Int) + 1) = ((x + 1 : Nat) : Int) := by rw [w64_id (by omega) (by omega)]; rfl
    rw [ref04_Core.l0, if_pos (by simp; omega), if_pos (show 0 ≤ (x : Int) ∧ (x : Int) < (L.length : Int) by omega), Int.toNat_natCast, hwx]
    exact rc_l0 hls d (x + 1) k _ (by omega) (by omega) (by simpa using hL) fun i h h2 => by
      rw [List.getElem_set]
      split
      · rfl
      · exact hx i (by simpa using h) (by omega)
theorem rc_l4 {s : List Tile} (hls : s.length ≤ 1000) (J : Nat → Bool) : ∀ (d x k : Nat) (acc : List Int), x + d = s.length → d < k → acc.length ≤ x → ref04_Core.l4 k acc x s (bitsL s J) = some (acc ++ ((List.range' x d).filter J).map fun (i : Nat) => (i : Int))
  | 0, x, k, acc, e, hk, ha => by
    obtain ⟨k, rfl⟩ : ∃ m, k = m + 1 := ⟨k - 1, by omega⟩
    rw [ref04_Core.l4, if_neg (by simp; omega)]; simp
  | d + 1, x, k, acc, e, hk, ha => by
    obtain ⟨k, rfl⟩ : ∃ m, k = m + 1 := ⟨k - 1, by omega⟩
    have hwx : w64 ((x : Int) + 1) = ((x + 1 : Nat) : Int) := by rw [w64_id (by omega) (by omega)]; rfl
    have hlb : (bitsL s J).length = s.length := by simp [bitsL]
    have hb : rdD (bitsL s J) (x : Int) false = J x := by rw [rdD_get (by omega)]; simp [bitsL]
    rw [ref04_Core.l4, if_pos (by simp; omega), if_pos (by omega), hb, hwx, List.range'_succ, List.filter_cons]
    cases hj : J x
    · rw [if_neg (by simp), Option.bind_some, rc_l4 hls J d (x + 1) k acc (by omega) (by omega) (by omega), if_neg (by simp)]
    · rw [if_pos rfl, if_pos (by simp; omega), Option.bind_some, rc_l4 hls J d (x + 1) k _ (by omega) (by omega) (by simp; omega), if_pos rfl]
      simp
theorem idxL_nodup (n : Nat) : (idxL n).Nodup := by
  unfold idxL
  rw [List.Nodup, List.pairwise_map]
  exact List.nodup_range.imp fun h e => h (by omega)
theorem sub_filter {C L : List Int} (h : C.Sublist L) (hn : L.Nodup) (p : Int → Bool) (hp : ∀ x ∈ L, p x = decide (x ∈ C)) : C = L.filter p := by
  have h1 : C.filter p = C := List.filter_eq_self.2 fun x hx => by rw [hp x (h.subset hx)]; exact decide_eq_true hx
  have h2 : C.Sublist (L.filter p) := by have := h.filter p; rwa [h1] at this
  have hp2 : C.Perm (L.filter p) := (List.perm_ext_iff_of_nodup (h.nodup hn) (hn.filter _)).2 fun x => by
    rw [List.mem_filter]
    constructor
    · intro hx; exact ⟨h.subset hx, by rw [hp x (h.subset hx)]; exact decide_eq_true hx⟩
    · rintro ⟨h3, h4⟩; rw [hp x h3] at h4; exact of_decide_eq_true h4
  exact h2.eq_of_length hp2.length_eq
theorem refCore_eq {s : List Tile} (hls : s.length ≤ 1000) {k : Nat} (hk : 10000 < k) : ref04_Core k s = some (coreC s) := by
  have h0 := rc_l0 hls s.length 0 k (List.replicate s.length false) (by omega) (by omega) (by simp) (fun i h h2 => by omega)
  have h0 : ref04_Core.l0 k (List.replicate s.length false) 0 s = _ := h0
  have hcnt : (List.range s.length).countP (fun _ => true) ≤ s.length := by have := List.countP_le_length (p := fun _ => true) (l := List.range s.length); rwa [List.length_range] at this
  obtain ⟨J, e1, hJ1, hJ2⟩ := rc_l1 hls s.length k (fun _ => true) hcnt (by omega) (fun _ _ _ _ _ => rfl)
  have h4 := rc_l4 hls J s.length 0 k [] (by omega) (by omega) (by simp)
  have h4 : ref04_Core.l4 k [] 0 s (bitsL s J) = _ := h4
  have hC : coreC s = (idxL s.length).filter fun i => J i.toNat := by
    refine sub_filter (coreC_sub s) (idxL_nodup _) _ fun x hx => ?_
    have hr := idx_rng hx
    rw [Bool.eq_iff_iff, decide_eq_true_eq]
    constructor
    · intro hj
      exact core_keep s _ (all4_stays hJ1) _ _ (fun i hi => (List.mem_filter.1 hi).1) x (List.mem_filter.2 ⟨hx, hj⟩)
    · intro hc
      have hst : ∀ i ∈ coreC s, stays s (coreC s) i = true := fun i hi => by
        have h1 : i ∈ thinL s (coreC s) := by rw [coreC_fix s]; exact hi
        exact (List.mem_filter.1 h1).2
      exact hJ2 (coreC s) hst (fun i hi => idx_rng ((coreC_sub s).subset hi)) x hc
  have hI : (((List.range' 0 s.length).filter J).map fun (i : Nat) => (i : Int)) = (idxL s.length).filter fun i => J i.toNat := by
    unfold idxL
    rw [List.filter_map, ← List.range_eq_range']
    congr 1
  unfold ref04_Core
  rw [if_pos (by omega), Int.toNat_natCast, h0, Option.bind_some, e1, Option.bind_some, h4, Option.bind_some, List.nil_append, hI, ← hC]
end Gp
set_option linter.unusedVariables false
set_option linter.unusedSimpArgs false
namespace Gp
open Gw Gq
def begN (s : List Tile) : Nat → Nat → Bool
  | 0, _ => true
  | n + 1, i => (List.range s.length).any fun k => begN s n k && ((s.getD i z_Tile).E == (s.getD k z_Tile).W)
theorem rr_l3 {s : List Tile} (hls : s.length ≤ 1000) {can : List Bool} (hcan : can.length = s.length) {i : Nat} (hi : i < s.length) : ∀ (d x k : Nat) (nx : List Bool), x + d = s.length → d < k → (hn : nx.length = s.length) →
    ref04_Rows.l3 k nx x s can i = some (nx.set i (nx[i] || (List.range' x d).any fun j => can.getD j false && (s[i].E == (s.getD j z_Tile).W)))
  | 0, x, k, nx, e, hk, hn => by
    obtain ⟨k, rfl⟩ : ∃ m, k = m + 1 := ⟨k - 1, by omega⟩
    rw [ref04_Rows.l3, if_neg (show ¬ (decide ((x : Int) < (s.length : Int)) = true) by simp; omega), Option.bind_some, if_neg (show ¬ (false = true) by simp), List.range'_zero, List.any_nil, Bool.or_false, set_id nx (by omega) rfl]
  | d + 1, x, k, nx, e, hk, hn => by
    obtain ⟨k, rfl⟩ : ∃ m, k = m + 1 := ⟨k - 1, by omega⟩
    have hlt : x < s.length := by omega
    have hwx : w64 ((x : Int) + 1) = ((x + 1 : Nat) : Int) := by rw [w64_id (by omega) (by omega)]; rfl
    have c1 : 0 ≤ (x : Int) ∧ (x : Int) < (s.length : Int) := by omega
    have c2 : 0 ≤ (i : Int) ∧ (i : Int) < (s.length : Int) := by omega
    have c4 : 0 ≤ (i : Int) ∧ (i : Int) < (nx.length : Int) := by omega
    have c5 : 0 ≤ (x : Int) ∧ (x : Int) < (can.length : Int) := by omega
    have rn : rdD nx (i : Int) false = nx[i] := rdD_get (by omega) _
    have rc : rdD can (x : Int) false = can[x] := rdD_get (by omega) _
    have gc : can.getD x false = can[x] := by rw [List.getD_eq_getElem?_getD, List.getElem?_eq_getElem (by omega)]; rfl
    have gs : s.getD x z_Tile = s[x] := by rw [List.getD_eq_getElem?_getD, List.getElem?_eq_getElem hlt]; rfl
    have next : ∀ v : Bool, ref04_Rows.l3 k (nx.set i v) ((x + 1 : Nat) : Int) s can i = some (nx.set i (v || (List.range' (x + 1) d).any fun j => can.getD j false && (s[i].E == (s.getD j z_Tile).W))) := fun v => by
      rw [rr_l3 hls hcan hi d (x + 1) k (nx.set i v) (by omega) (by omega) (by simpa using hn)]
      simp
    rw [ref04_Rows.l3, if_pos (show decide ((x : Int) < (s.length : Int)) = true by simpa using hlt), if_pos c4, rn, Option.bind_some, List.range'_succ, List.any_cons, gc, gs]
    cases hx : nx[i]
    rotate_left
    · rw [if_neg (by simp), Bool.true_or, ← hx, set_id nx (by omega) rfl]
    rw [if_pos (by simp), Bool.false_or]
    simp only [if_pos c1, if_pos c2, if_pos c4, if_pos c5, rc, rdD_get hlt, rdD_get hi, Int.toNat_natCast, hwx]
    cases hc : can[x]
    · simp only [Bool.false_eq_true, if_false, Option.bind_some, next, Bool.false_and, Bool.false_or]
    · simp only [if_true, Option.bind_some, next, Bool.true_and]
end Gp
set_option linter.unusedVariables false
set_option linter.unusedSimpArgs false
namespace Gp
open Gw Gq
def begL (s : List Tile) (n : Nat) : List Bool := (List.range s.length).map (begN s n)
theorem begL_get {s : List Tile} {n j : Nat} (h : j < s.length) : (begL s n).getD j false = begN s n j := by
  simp [begL, List.getD_eq_getElem?_getD, List.getElem?_map, List.getElem?_range h]
theorem rr_l2 {s : List Tile} (hls : s.length ≤ 1000) (n : Nat) : ∀ (d x k : Nat) (b : Bool) (nx : List Bool), x + d = s.length → d + 1001 < k → (hn : nx.length = s.length) → (∀ (i : Nat) (h : i < nx.length), nx[i] = if i < x then begN s (n + 1) i else false) → b = (List.range x).any (begN s n) →
    ref04_Rows.l2 k b nx x s (begL s n) = some ((List.range s.length).any (begN s n), begL s (n + 1))
  | 0, x, k, b, nx, e, hk, hn, hx, hb => by
    obtain ⟨k, rfl⟩ : ∃ m, k = m + 1 := ⟨k - 1, by omega⟩
    have : nx = begL s (n + 1) := by
      apply List.ext_getElem (by simp [begL, hn])
      intro i h1 h2
      rw [hx i h1, if_pos (by omega)]; simp [begL]
    rw [ref04_Rows.l2, if_neg (by simp; omega), this, hb, show x = s.length by omega]
  | d + 1, x, k, b, nx, e, hk, hn, hx, hb => by
    obtain ⟨k, rfl⟩ : ∃ m, k = m + 1 := ⟨k - 1, by omega⟩
    have hlt : x < s.length := by omega
    have hwx : w64 ((x : Int) + 1) = ((x + 1 : Nat) : Int) := by rw [w64_id (by omega) (by omega)]; rfl
    have l3 := rr_l3 hls (can := begL s n) (by simp [begL]) hlt s.length 0 k nx (by omega) (by omega) hn
    have l3 : ref04_Rows.l3 k nx 0 s (begL s n) x = _ := l3
    have gs : s.getD x z_Tile = s[x] := by rw [List.getD_eq_getElem?_getD, List.getElem?_eq_getElem hlt]; rfl
    have hv : (nx[x]'(by omega) || (List.range' 0 s.length).any fun j => (begL s n).getD j false && (s[x].E == (s.getD j z_Tile).W)) = begN s (n + 1) x := by
      rw [hx x (by omega), if_neg (by omega), Bool.false_or, begN, List.range_eq_range', gs]
      refine any_cong fun j hj => ?_
      have hj2 : j < s.length := by have := List.mem_range'_1.1 hj; omega
      rw [begL_get hj2]
    have hr : rdD (begL s n) (x : Int) false = begN s n x := begL_get hlt
    have hlb : (begL s n).length = s.length := by simp [begL]
    have e1 : (if b = true then some true else (if 0 ≤ (x : Int) ∧ (x : Int) < ((begL s n).length : Int) then some (rdD (begL s n) (x : Int) false) else none)) = some (b || begN s n x) := by
      rw [if_pos (show 0 ≤ (x : Int) ∧ (x : Int) < ((begL s n).length : Int) by omega), hr]
      cases b <;> rfl
    rw [ref04_Rows.l2, if_pos (by simpa using hlt), e1, Option.bind_some, l3, Option.bind_some, hwx, hv]
    refine rr_l2 hls n d (x + 1) k _ _ (by omega) (by omega) (by simpa using hn) (fun i h => ?_) (by rw [hb, List.range_succ, List.any_append]; simp)
    rw [List.getElem_set]
    split
    · rename_i e2; subst e2; rw [if_pos (by omega)]
    · rename_i e2
      rw [hx i (by simpa using h)]
      by_cases h3 : i < x
      · rw [if_pos h3, if_pos (by omega)]
      · rw [if_neg h3, if_neg (by omega)]
def firstNo (P : Nat → Bool) : Nat → Nat → Option Nat
  | 0, _ => none
  | d + 1, x => if P x = true then firstNo P d (x + 1) else some x
theorem rr_l1 {s : List Tile} (hls : s.length ≤ 1000) : ∀ (d x k : Nat), x + d = s.length + 1 → d + 2005 < k → ref04_Rows.l1 k (begL s x) x s = some (match firstNo (fun n => (List.range s.length).any (begN s n)) d x with
    | none => .inr ()
    | some n => .inl ((n : Int), true))
  | 0, x, k, e, hk => by
    obtain ⟨k, rfl⟩ : ∃ m, k = m + 1 := ⟨k - 1, by omega⟩
    rw [ref04_Rows.l1, if_neg (by simp; omega)]; rfl
  | d + 1, x, k, e, hk => by
    obtain ⟨k, rfl⟩ : ∃ m, k = m + 1 := ⟨k - 1, by omega⟩
    have hwx : w64 ((x : Int) + 1) = ((x + 1 : Nat) : Int) := by rw [w64_id (by omega) (by omega)]; rfl
    have l2 := rr_l2 hls x s.length 0 k false (List.replicate s.length false) (by omega) (by omega) (by simp) (fun i h => by simp) (by simp)
    have l2 : ref04_Rows.l2 k false (List.replicate s.length false) 0 s (begL s x) = _ := l2
    rw [ref04_Rows.l1, if_pos (by simp; omega), if_pos (by omega), Int.toNat_natCast, l2, Option.bind_some, hwx, firstNo]
    cases hb : (List.range s.length).any (begN s x)
    · rw [if_pos (by simp), if_neg (by simp)]
    · rw [if_neg (by simp), if_pos rfl]
      exact rr_l1 hls d (x + 1) k (by omega) (by omega)
end Gp
set_option linter.unusedVariables false
set_option linter.unusedSimpArgs false
namespace Gp
open Gw Gq
theorem rr_l0 {s : List Tile} (hls : s.length ≤ 1000) : ∀ (d x k : Nat) (L : List Bool), x + d = s.length → d < k → (hL : L.length = s.length) → (∀ (i : Nat) (h : i < L.length), i < x → L[i] = true) → ref04_Rows.l0 k L x s = some (begL s 0)
  | 0, x, k, L, e, hk, hL, hx => by
    obtain ⟨k, rfl⟩ : ∃ m, k = m + 1 := ⟨k - 1, by omega⟩
    have : L = begL s 0 := by
      apply List.ext_getElem (by simp [begL, hL])
      intro i h1 h2
      rw [hx i h1 (by omega)]; simp [begL, begN]
    rw [ref04_Rows.l0, if_neg (by simp; omega), this]
  | d + 1, x, k, L, e, hk, hL, hx => by
    obtain ⟨k, rfl⟩ : ∃ m, k = m + 1 := ⟨k - 1, by omega⟩
    have hwx : w64 ((x : Int) + 1) = ((x + 1 : Nat) : Int) := by rw [w64_id (by omega) (by omega)]; rfl
    rw [ref04_Rows.l0, if_pos (by simp; omega), if_pos (show 0 ≤ (x : Int) ∧ (x : Int) < (L.length : Int) by omega), Int.toNat_natCast, hwx]
    exact rr_l0 hls d (x + 1) k _ (by omega) (by omega) (by simpa using hL) fun i h h2 => by
      rw [List.getElem_set]
      split
      · rfl
      · exact hx i (by simpa using h) (by omega)
theorem refRows_eq {s : List Tile} (hls : s.length ≤ 1000) {k : Nat} (hk : 10000 < k) : ref04_Rows k s = some (match firstNo (fun n => (List.range s.length).any (begN s n)) (s.length + 1) 0 with
    | none => (0, false)
    | some n => ((n : Int), true)) := by
  have h0 := rr_l0 hls s.length 0 k (List.replicate s.length false) (by omega) (by omega) (by simp) (fun i h h2 => by omega)
  have h0 : ref04_Rows.l0 k (List.replicate s.length false) 0 s = _ := h0
  have h1 := rr_l1 hls (s.length + 1) 0 k (by omega) (by omega)
  have h1 : ref04_Rows.l1 k (begL s 0) 0 s = _ := h1
  unfold ref04_Rows
  rw [if_pos (by omega), Int.toNat_natCast, h0, Option.bind_some, h1, Option.bind_some]
  cases firstNo (fun n => (List.range s.length).any (begN s n)) (s.length + 1) 0 <;> rfl
theorem beg_mono (s : List Tile) : ∀ (n i : Nat), begN s (n + 1) i = true → begN s n i = true
  | 0, i, h => rfl
  | n + 1, i, h => by
    unfold begN at h ⊢
    rw [List.any_eq_true] at h ⊢
    obtain ⟨k, hk, h2⟩ := h
    rw [Bool.and_eq_true] at h2
    exact ⟨k, hk, by rw [beg_mono s n k h2.1, h2.2]; rfl⟩
theorem beg_stay (s : List Tile) {n : Nat} (h : ∀ i, i < s.length → begN s n i = begN s (n + 1) i) : ∀ m, ∀ i, i < s.length → begN s (n + m) i = begN s n i
  | 0, i, hi => rfl
  | m + 1, i, hi => by
    have e : begN s (n + (m + 1)) i = begN s (n + 1) i := by
      show begN s (n + m + 1) i = begN s (n + 1) i
      unfold begN
      refine any_cong fun k hk => ?_
      rw [beg_stay s h m k (List.mem_range.1 hk)]
    rw [e, ← h i hi]
theorem beg_all (s : List Tile) (h : (List.range s.length).any (begN s s.length) = true) (m : Nat) : (List.range s.length).any (begN s m) = true := by
  have key : ∀ n, n ≤ s.length → (∃ j, j < n ∧ ∀ i, i < s.length → begN s j i = begN s (j + 1) i) ∨ (List.range s.length).countP (begN s n) + n ≤ s.length := by
    intro n
    induction n with
    | zero => intro _; exact .inr (by have := List.countP_le_length (p := begN s 0) (l := List.range s.length); rw [List.length_range] at this; omega)
    | succ n ih =>
      intro hn
      rcases ih (by omega) with ⟨j, hj, h1⟩ | h1
      · exact .inl ⟨j, by omega, h1⟩
      · by_cases hs : ∀ i, i < s.length → begN s n i = begN s (n + 1) i
        · exact .inl ⟨n, by omega, hs⟩
        · refine .inr ?_
          obtain ⟨i, hi⟩ := Classical.not_forall.1 hs
          obtain ⟨hi1, hi2⟩ := Classical.not_imp.1 hi
          have hp : begN s n i = true ∧ begN s (n + 1) i = false := by
            cases h3 : begN s (n + 1) i
            · cases h4 : begN s n i
              · rw [h3, h4] at hi2; exact absurd rfl hi2
              · exact ⟨rfl, rfl⟩
            · rw [beg_mono s n i h3, h3] at hi2; exact absurd rfl hi2
          have := count_lt (p := begN s (n + 1)) (q := begN s n) (fun j => beg_mono s n j) (List.mem_range.2 hi1) hp.1 hp.2
          omega
  rcases key s.length (Nat.le_refl _) with ⟨j, hj, hst⟩ | h1
  · rw [List.any_eq_true] at h ⊢
    obtain ⟨i, hi, hb⟩ := h
    have hi2 := List.mem_range.1 hi
    have e1 := beg_stay s hst (s.length - j) i hi2
    rw [show j + (s.length - j) = s.length by omega, hb] at e1
    refine ⟨i, hi, ?_⟩
    by_cases hm : j ≤ m
    · have := beg_stay s hst (m - j) i hi2
      rw [show j + (m - j) = m by omega] at this
      rw [this, ← e1]
    · have down : ∀ d, begN s (m + d) i = true → begN s m i = true := fun d => by
        induction d with
        | zero => exact id
        | succ d ih => exact fun hd => ih (beg_mono s (m + d) i hd)
      exact down (j - m) (by rw [show m + (j - m) = j by omega]; exact e1.symm)
  · exfalso
    rw [List.any_eq_true] at h
    obtain ⟨i, hi, hb⟩ := h
    have : 0 < (List.range s.length).countP (begN s s.length) := List.countP_pos_iff.2 ⟨i, hi, hb⟩
    omega
end Gp
set_option linter.unusedVariables false
set_option linter.unusedSimpArgs false
namespace Gp
open Gw Gq
theorem pr_l0 : ∀ (d x k : Nat) (c : A16_Int), x + d = 1000 → d < k → okC c → (∀ y, y < 1000 → hasC c y = decide (y < x)) → ∃ c', strip_Rows.l0 k c x = some c' ∧ okC c' ∧ ∀ y, y < 1000 → hasC c' y = true
  | 0, x, k, c, e, hk, hc, hy => by
    obtain ⟨k, rfl⟩ : ∃ m, k = m + 1 := ⟨k - 1, by omega⟩
    exact ⟨c, by rw [strip_Rows.l0, if_neg (by simp; omega)], hc, fun y h => by rw [hy y h]; exact decide_eq_true (by omega)⟩
  | d + 1, x, k, c, e, hk, hc, hy => by
    obtain ⟨k, rfl⟩ : ∃ m, k = m + 1 := ⟨k - 1, by omega⟩
    have hwx : w64 ((x : Int) + 1) = ((x + 1 : Nat) : Int) := by rw [w64_id (by omega) (by omega)]; rfl
    obtain ⟨c1, h1, h2, h3⟩ := put_eq hc (x := x) (by omega)
    obtain ⟨c', e1, h4, h5⟩ := pr_l0 d (x + 1) k c1 (by omega) (by omega) h2 (fun y h => by
      rw [h3 y h, hy y h, Bool.eq_iff_iff]; simp; omega)
    exact ⟨c', by rw [strip_Rows.l0, if_pos (by simp; omega), h1, Option.bind_some, hwx]; exact e1, h4, h5⟩
theorem pr_l2 {s : List Tile} (hs : colB4 s) (hls : s.length ≤ 1000) {at_ : A16_Int} (hat : okC at_) : ∀ (d x k : Nat) (nx : A16_Int), x + d = s.length → d < k → okC nx → (∀ y : Nat, y < 1024 → hasC nx y = (s.take x).any fun t => decide (t.W = (y : Int)) && hasC at_ t.E.toNat) →
    ∃ c', strip_Rows.l2 k nx x s at_ = some c' ∧ okC c' ∧ ∀ y : Nat, y < 1024 → hasC c' y = s.any fun t => decide (t.W = (y : Int)) && hasC at_ t.E.toNat
  | 0, x, k, nx, e, hk, hn, hx => by
    obtain ⟨k, rfl⟩ : ∃ m, k = m + 1 := ⟨k - 1, by omega⟩
    exact ⟨nx, by rw [strip_Rows.l2, if_neg (by simp; omega)], hn, fun y hy => by rw [hx y hy, List.take_of_length_le (by omega)]⟩
  | d + 1, x, k, nx, e, hk, hn, hx => by
    obtain ⟨k, rfl⟩ : ∃ m, k = m + 1 := ⟨k - 1, by omega⟩
    have hlt : x < s.length := by omega
    have hwx : w64 ((x : Int) + 1) = ((x + 1 : Nat) : Int) := by rw [w64_id (by omega) (by omega)]; rfl
    obtain ⟨-, ⟨hE0, hE1⟩, -, ⟨hW0, hW1⟩⟩ := hs s[x] (List.getElem_mem hlt)
    obtain ⟨eE, heE⟩ : ∃ m : Nat, s[x].E = m := ⟨s[x].E.toNat, by omega⟩
    obtain ⟨wW, hwW⟩ : ∃ m : Nat, s[x].W = m := ⟨s[x].W.toNat, by omega⟩
    have hhas : strip_colours_has at_ s[x].E = some (hasC at_ s[x].E.toNat) := by rw [heE, has_eq hat (by omega), Int.toNat_natCast]
    have htake : ∀ (f : Tile → Bool), (s.take (x + 1)).any f = ((s.take x).any f || f s[x]) := fun f => by
      rw [List.take_succ_eq_append_getElem hlt, List.any_append]; simp
    rw [strip_Rows.l2, if_pos (by simpa using hlt), if_pos (show 0 ≤ (x : Int) ∧ (x : Int) < (s.length : Int) by omega), rdD_get hlt, hhas, Option.bind_some, hwx]
    cases hb : hasC at_ s[x].E.toNat
    · rw [if_neg (by simp), Option.bind_some]
      exact pr_l2 hs hls hat d (x + 1) k nx (by omega) (by omega) hn fun y hy => by rw [htake, hx y hy, hb]; simp
    · obtain ⟨c, hc1, hc2, hc3⟩ := put_eqL hn (x := wW) (by omega)
      rw [if_pos rfl, hwW, hc1, Option.bind_some, Option.bind_some]
      refine pr_l2 hs hls hat d (x + 1) k c (by omega) (by omega) hc2 fun y hy => ?_
      rw [hc3 y hy, htake, hx y hy, hb, hwW]
      congr 1
      rw [Bool.and_true, Bool.eq_iff_iff]; simp; omega
end Gp
set_option linter.unusedVariables false
set_option linter.unusedSimpArgs false
namespace Gp
open Gw Gq
theorem any_idx (s : List Tile) (p : Tile → Bool) : s.any p = (List.range s.length).any fun i => p (s.getD i z_Tile) := by
  rw [Bool.eq_iff_iff, List.any_eq_true, List.any_eq_true]
  constructor
  · rintro ⟨t, ht, hp⟩
    obtain ⟨i, hi, rfl⟩ := List.getElem_of_mem ht
    refine ⟨i, List.mem_range.2 hi, ?_⟩
    rw [List.getD_eq_getElem?_getD, List.getElem?_eq_getElem hi]; exact hp
  · rintro ⟨i, hi, hp⟩
    have hi := List.mem_range.1 hi
    rw [List.getD_eq_getElem?_getD, List.getElem?_eq_getElem hi] at hp
    exact ⟨_, List.getElem_mem hi, hp⟩
def AtI (s : List Tile) (n : Nat) (c : A16_Int) : Prop := okC c ∧ ∀ y : Nat, y < 1000 → hasC c y = (decide (n = 0) || (List.range s.length).any fun i => decide ((s.getD i z_Tile).W = (y : Int)) && begN s (n - 1) i)
theorem at_tile {s : List Tile} (hs : colB4 s) {n : Nat} {c : A16_Int} (h : AtI s n c) {i : Nat} (hi : i < s.length) : hasC c (s.getD i z_Tile).E.toNat = begN s n i := by
  have hg : s.getD i z_Tile = s[i] := by simp [List.getElem?_eq_getElem hi]
  obtain ⟨-, ⟨hE0, hE1⟩, -, -⟩ := hs s[i] (List.getElem_mem hi)
  rw [h.2 _ (by rw [hg]; omega)]
  cases n with
  | zero => simp [begN]
  | succ n =>
    rw [begN, Bool.eq_iff_iff]
    simp only [Nat.add_sub_cancel, Bool.or_eq_true, decide_eq_true_eq, List.any_eq_true, List.mem_range, Bool.and_eq_true, beq_iff_eq]
    have he : ((s.getD i z_Tile).E.toNat : Int) = (s.getD i z_Tile).E := by rw [hg]; omega
    rw [he]
    constructor
    · rintro (h | ⟨k, hk, h1, h2⟩)
      · omega
      · exact ⟨k, hk, h2, h1.symm⟩
    · rintro ⟨k, hk, h1, h2⟩
      exact .inr ⟨k, hk, h2.symm, h1⟩
theorem at_step {s : List Tile} (hs : colB4 s) {n : Nat} {c c' : A16_Int} (h : AtI s n c) (ho : okC c') (hc : ∀ y : Nat, y < 1024 → hasC c' y = s.any fun t => decide (t.W = (y : Int)) && hasC c t.E.toNat) :
    AtI s (n + 1) c' ∧ ((∀ y : Nat, y < 1024 → hasC c' y = false) ↔ (List.range s.length).any (begN s n) = false) := by
  have hc2 : ∀ y : Nat, y < 1024 → hasC c' y = (List.range s.length).any fun i => decide ((s.getD i z_Tile).W = (y : Int)) && begN s n i := fun y hy => by
    rw [hc y hy, any_idx, Bool.eq_iff_iff, List.any_eq_true, List.any_eq_true]
    constructor
    · rintro ⟨i, hi, h1⟩
      exact ⟨i, hi, by rwa [at_tile hs h (List.mem_range.1 hi)] at h1⟩
    · rintro ⟨i, hi, h1⟩
      exact ⟨i, hi, by rwa [at_tile hs h (List.mem_range.1 hi)]⟩
  refine ⟨⟨ho, fun y hy => by rw [hc2 y (by omega)]; simp⟩, ?_⟩
  constructor
  · intro hz
    rw [List.any_eq_false]
    intro i hi hb
    have hi := List.mem_range.1 hi
    have hg : s.getD i z_Tile = s[i] := by simp [List.getElem?_eq_getElem hi]
    obtain ⟨-, -, -, ⟨hW0, hW1⟩⟩ := hs s[i] (List.getElem_mem hi)
    have := hz s[i].W.toNat (by omega)
    rw [hc2 _ (by omega), List.any_eq_false] at this
    exact this i (List.mem_range.2 hi) (by rw [hb, hg, Bool.and_true, decide_eq_true_eq]; omega)
  · intro hz y hy
    rw [hc2 y hy, List.any_eq_false]
    rw [List.any_eq_false] at hz
    intro i hi hb
    rw [Bool.and_eq_true] at hb
    exact hz i hi hb.2
theorem firstNo_some (P : Nat → Bool) : ∀ (d x n : Nat), firstNo P d x = some n → x ≤ n ∧ n < x + d ∧ P n = false ∧ ∀ m, x ≤ m → m < n → P m = true
  | 0, x, n, h => by rw [firstNo] at h; cases h
  | d + 1, x, n, h => by
    rw [firstNo] at h
    by_cases hp : P x = true
    · rw [if_pos hp] at h
      obtain ⟨h1, h2, h3, h4⟩ := firstNo_some P d (x + 1) n h
      refine ⟨by omega, by omega, h3, fun m hm hm2 => ?_⟩
      by_cases e : m = x
      · rw [e]; exact hp
      · exact h4 m (by omega) hm2
    · rw [if_neg hp] at h
      cases h
      exact ⟨by omega, by omega, by simpa using hp, fun m h1 h2 => by omega⟩
theorem firstNo_none (P : Nat → Bool) : ∀ (d x : Nat), firstNo P d x = none → ∀ m, x ≤ m → m < x + d → P m = true
  | 0, x, _, m, h1, h2 => by omega
  | d + 1, x, h, m, h1, h2 => by
    rw [firstNo] at h
    by_cases hp : P x = true
    · rw [if_pos hp] at h
      by_cases e : m = x
      · rw [e]; exact hp
      · exact firstNo_none P d (x + 1) h m (by omega) (by omega)
    · rw [if_neg hp] at h; cases h
theorem firstNo_iff (P : Nat → Bool) (d x n : Nat) : firstNo P d x = some n ↔ x ≤ n ∧ n < x + d ∧ P n = false ∧ ∀ m, x ≤ m → m < n → P m = true := by
  refine ⟨firstNo_some P d x n, fun ⟨h1, h2, h3, h4⟩ => ?_⟩
  cases h : firstNo P d x with
  | none => have := firstNo_none P d x h n h1 h2; rw [h3] at this; cases this
  | some m =>
    obtain ⟨k1, k2, k3, k4⟩ := firstNo_some P d x m h
    rcases Nat.lt_trichotomy m n with e | e | e
    · have := h4 m k1 e; rw [k3] at this; cases this
    · rw [e]
    · have := k4 n h1 e; rw [h3] at this; cases this
theorem firstNo_beg {s : List Tile} (hl : s.length ≤ 1000) : firstNo (fun n => (List.range s.length).any (begN s n)) 1001 0 = firstNo (fun n => (List.range s.length).any (begN s n)) (s.length + 1) 0 := by
  cases h : firstNo (fun n => (List.range s.length).any (begN s n)) (s.length + 1) 0 with
  | some n =>
    obtain ⟨h1, h2, h3, h4⟩ := firstNo_some _ _ _ _ h
    exact (firstNo_iff _ _ _ _).2 ⟨h1, by omega, h3, h4⟩
  | none =>
    have hb := firstNo_none _ _ _ h s.length (by omega) (by omega)
    cases h2 : firstNo (fun n => (List.range s.length).any (begN s n)) 1001 0 with
    | none => rfl
    | some m =>
      obtain ⟨-, -, h3, -⟩ := firstNo_some _ _ _ _ h2
      have := beg_all s hb m
      rw [this] at h3; cases h3
end Gp
set_option linter.unusedVariables false
set_option linter.unusedSimpArgs false
namespace OC
def rep (c : Nat) : Nat → Nat
  | 0 => 0
  | n + 1 => 256 * rep c n + c
def s1 (M a : Nat) : Nat := (a / 2 &&& M) + (a &&& M)
def s2 (M a : Nat) : Nat := (a / 4 &&& M) + (a &&& M)
def s3 (M a : Nat) : Nat := (a / 16 + a) &&& M
theorem land_split (a M : Nat) : a &&& M = 256 * (a / 256 &&& M / 256) + (a % 256 &&& M % 256) := by
  have h1 := Nat.and_div_two_pow (a := a) (b := M) (n := 8)
  have h2 := Nat.and_mod_two_pow (a := a) (b := M) (n := 8)
  have e : 2 ^ 8 = 256 := by decide
  rw [e] at h1 h2
  rw [← h1, ← h2, Nat.div_add_mod]
theorem rep_div (c n : Nat) (h : c < 256) : rep c (n + 1) / 256 = rep c n ∧ rep c (n + 1) % 256 = c := by
  show (256 * rep c n + c) / 256 = _ ∧ (256 * rep c n + c) % 256 = c
  omega
def v (b : Nat) : Nat := s2 51 (s1 85 b)
def pc (b : Nat) : Nat := s3 15 (v b)
theorem t1 : ∀ b : Fin 256, ∀ c : Fin 2, (b.1 / 2 + 128 * c.1) &&& 85 = b.1 / 2 &&& 85 := by decide +kernel
theorem t2 : ∀ b : Fin 256, ∀ c : Fin 4, (b.1 / 4 + 64 * c.1) &&& 51 = b.1 / 4 &&& 51 := by decide +kernel
theorem t0 : ∀ b : Fin 256, s1 85 b.1 < 256 ∧ v b.1 ≤ 68 ∧ v b.1 % 16 ≤ 4 ∧ pc b.1 ≤ 8 ∧ (pc b.1 = 0 → b.1 = 0) := by decide +kernel
theorem s1_succ (n a : Nat) : s1 (rep 85 (n + 1)) a = 256 * s1 (rep 85 n) (a / 256) + s1 85 (a % 256) := by
  obtain ⟨e1, e2⟩ := rep_div 85 n (by omega)
  unfold s1
  rw [land_split (a / 2), land_split a, e1, e2]
  have h := t1 ⟨a % 256, Nat.mod_lt _ (by omega)⟩ ⟨a / 256 % 2, Nat.mod_lt _ (by omega)⟩
  simp only at h
  rw [show a / 2 / 256 = a / 256 / 2 by omega, show a / 2 % 256 = a % 256 / 2 + 128 * (a / 256 % 2) by omega, h]
  omega
theorem s2_succ (n a : Nat) : s2 (rep 51 (n + 1)) a = 256 * s2 (rep 51 n) (a / 256) + s2 51 (a % 256) := by
  obtain ⟨e1, e2⟩ := rep_div 51 n (by omega)
  unfold s2
  rw [land_split (a / 4), land_split a, e1, e2]
  have h := t2 ⟨a % 256, Nat.mod_lt _ (by omega)⟩ ⟨a / 256 % 4, Nat.mod_lt _ (by omega)⟩
  simp only at h
  rw [show a / 4 / 256 = a / 256 / 4 by omega, show a / 4 % 256 = a % 256 / 4 + 64 * (a / 256 % 4) by omega, h]
  omega
def U (n a : Nat) : Nat := s2 (rep 51 n) (s1 (rep 85 n) a)
def F (n a : Nat) : Nat := s3 (rep 15 n) (U n a)
theorem U_succ (n a : Nat) : U (n + 1) a = 256 * U n (a / 256) + v (a % 256) := by
  unfold U v
  obtain ⟨h, -⟩ := t0 ⟨a % 256, Nat.mod_lt _ (by omega)⟩
  simp only at h
  rw [s1_succ, s2_succ]
  congr 2
  · congr 1; omega
  · congr 1; omega
theorem U_16 : ∀ n a, U n a % 16 ≤ 4
  | 0, a => by simp [U, s2, rep]
  | n + 1, a => by
    obtain ⟨-, -, h, -⟩ := t0 ⟨a % 256, Nat.mod_lt _ (by omega)⟩
    simp only at h
    rw [U_succ]; omega
theorem and15 (a : Nat) : a &&& 15 = a % 16 := Nat.and_two_pow_sub_one_eq_mod a 4
theorem F_succ (n a : Nat) : F (n + 1) a = 256 * F n (a / 256) + pc (a % 256) := by
  obtain ⟨e1, e2⟩ := rep_div 15 n (by omega)
  obtain ⟨-, h1, h2, -⟩ := t0 ⟨a % 256, Nat.mod_lt _ (by omega)⟩
  simp only at h1 h2
  have h3 := U_16 n (a / 256)
  unfold F pc s3
  rw [land_split, e1, e2, U_succ, and15, and15]
  generalize U n (a / 256) = u at *
  generalize v (a % 256) = b at *
  rw [show ((256 * u + b) / 16 + (256 * u + b)) / 256 = u / 16 + u by omega]
  omega
theorem F0 (a : Nat) : F 0 a = 0 := by simp [F, s3, rep]
theorem step {x : Nat} (h : x / 256 = 0) (h0 : x % 256 = 0) : x = 0 := by omega
theorem dv {p d q : Nat} (hd : d < 256) (h : p = 256 * q + d) : p / 256 = q := by omega
theorem fin (x : Nat) (hx : x < 18446744073709551616) : ∃ y, F 8 x = y ∧ y ≤ 0x0808080808080808 ∧ (((y + y / 256) + (y + y / 256) / 65536) + ((y + y / 256) + (y + y / 256) / 65536) / 4294967296) < 9223372036854775808 ∧ ((((y + y / 256) + (y + y / 256) / 65536) + ((y + y / 256) + (y + y / 256) / 65536) / 4294967296) % 128 = 0 → x = 0) := by
  refine ⟨_, rfl, ?_⟩
  simp only [F_succ, F0]
  have g : ∀ a, pc (a % 256) ≤ 8 ∧ (pc (a % 256) = 0 → a % 256 = 0) := fun a => (t0 ⟨a % 256, Nat.mod_lt _ (by omega)⟩).2.2.2
  obtain ⟨x1, hx1⟩ : ∃ y, y = x / 256 := ⟨_, rfl⟩
  rw [← hx1]
  obtain ⟨x2, hx2⟩ : ∃ y, y = x1 / 256 := ⟨_, rfl⟩
  rw [← hx2]
  obtain ⟨x3, hx3⟩ : ∃ y, y = x2 / 256 := ⟨_, rfl⟩
  rw [← hx3]
  obtain ⟨x4, hx4⟩ : ∃ y, y = x3 / 256 := ⟨_, rfl⟩
  rw [← hx4]
  obtain ⟨x5, hx5⟩ : ∃ y, y = x4 / 256 := ⟨_, rfl⟩
  rw [← hx5]
  obtain ⟨x6, hx6⟩ : ∃ y, y = x5 / 256 := ⟨_, rfl⟩
  rw [← hx6]
  obtain ⟨x7, hx7⟩ : ∃ y, y = x6 / 256 := ⟨_, rfl⟩
  rw [← hx7]
  have b1 : x1 < 72057594037927936 := by omega
  have b2 : x2 < 281474976710656 := by omega
  have b3 : x3 < 1099511627776 := by omega
  have b4 : x4 < 4294967296 := by omega
  have b5 : x5 < 16777216 := by omega
  have b6 : x6 < 65536 := by omega
  have b7 : x7 < 256 := by omega
  obtain ⟨p0, z0⟩ := g x
  obtain ⟨p1, z1⟩ := g x1
  obtain ⟨p2, z2⟩ := g x2
  obtain ⟨p3, z3⟩ := g x3
  obtain ⟨p4, z4⟩ := g x4
  obtain ⟨p5, z5⟩ := g x5
  obtain ⟨p6, z6⟩ := g x6
  obtain ⟨p7, z7⟩ := g x7
  have key : pc (x % 256) + pc (x1 % 256) + pc (x2 % 256) + pc (x3 % 256) + pc (x4 % 256) + pc (x5 % 256) + pc (x6 % 256) + pc (x7 % 256) = 0 → x = 0 := fun h => by
    have q7 : x7 = 0 := by have := z7 (by omega); omega
    have q6 : x6 = 0 := step (by omega) (z6 (by omega))
    have q5 : x5 = 0 := step (by omega) (z5 (by omega))
    have q4 : x4 = 0 := step (by omega) (z4 (by omega))
    have q3 : x3 = 0 := step (by omega) (z3 (by omega))
    have q2 : x2 = 0 := step (by omega) (z2 (by omega))
    have q1 : x1 = 0 := step (by omega) (z1 (by omega))
    exact step (by omega) (z0 (by omega))
  clear hx1 hx2 hx3 hx4 hx5 hx6 hx7 z0 z1 z2 z3 z4 z5 z6 z7 b1 b2 b3 b4 b5 b6 b7 g hx
  generalize pc (x % 256) = d0 at *
  generalize pc (x1 % 256) = d1 at *
  generalize pc (x2 % 256) = d2 at *
  generalize pc (x3 % 256) = d3 at *
  generalize pc (x4 % 256) = d4 at *
  generalize pc (x5 % 256) = d5 at *
  generalize pc (x6 % 256) = d6 at *
  generalize pc (x7 % 256) = d7 at *
  generalize hy : 256 * (256 * (256 * (256 * (256 * (256 * (256 * (256 * 0 + d7) + d6) + d5) + d4) + d3) + d2) + d1) + d0 = y
  refine ⟨by omega, ?_⟩
  obtain ⟨y1, hy1⟩ : ∃ y1, y1 = y / 256 := ⟨_, rfl⟩
  have k1 : y1 = 256 * (256 * (256 * (256 * (256 * (256 * (256 * 0 + d7) + d6) + d5) + d4) + d3) + d2) + d1 := by rw [hy1]; exact dv (by omega) hy.symm
  rw [← hy1]
  generalize hx4 : y + y1 = x4
  have e4 : x4 = 256 * (256 * (256 * (256 * (256 * (256 * (256 * d7 + (d6 + d7)) + (d5 + d6)) + (d4 + d5)) + (d3 + d4)) + (d2 + d3)) + (d1 + d2)) + (d0 + d1) := by omega
  generalize hy2 : x4 / 65536 = y2
  have k2 : y2 = 256 * (256 * (256 * (256 * (256 * d7 + (d6 + d7)) + (d5 + d6)) + (d4 + d5)) + (d3 + d4)) + (d2 + d3) := by
    rw [← hy2, show 65536 = 256 * 256 by rfl, ← Nat.div_div_eq_div_mul]
    exact dv (by omega) (dv (by omega) e4)
  generalize hx5 : x4 + y2 = x5
  have e5 : x5 = 256 * (256 * (256 * (256 * (256 * (256 * (256 * d7 + (d6 + d7)) + (d5 + d6 + d7)) + (d4 + d5 + d6 + d7)) + (d3 + d4 + d5 + d6)) + (d2 + d3 + d4 + d5)) + (d1 + d2 + d3 + d4)) + (d0 + d1 + d2 + d3) := by omega
  generalize hy3 : x5 / 4294967296 = y3
  have k3 : y3 = 256 * (256 * (256 * d7 + (d6 + d7)) + (d5 + d6 + d7)) + (d4 + d5 + d6 + d7) := by
    rw [← hy3, show 4294967296 = 256 * 256 * 256 * 256 by rfl, ← Nat.div_div_eq_div_mul, ← Nat.div_div_eq_div_mul, ← Nat.div_div_eq_div_mul]
    exact dv (by omega) (dv (by omega) (dv (by omega) (dv (by omega) e5)))
  clear hy hy1 k1 hx4 e4 hy2 k2 hx5 hy3
  refine ⟨by omega, fun h => key ?_⟩
  have e6 : x5 + y3 = 256 * (256 * (256 * (256 * (256 * (256 * (256 * d7 + (d6 + d7)) + (d5 + d6 + d7)) + (d4 + d5 + d6 + d7)) + (d3 + d4 + d5 + d6 + d7)) + (d2 + d3 + d4 + d5 + (d6 + d7))) + (d1 + d2 + d3 + d4 + (d5 + d6 + d7))) + (d0 + d1 + d2 + d3 + (d4 + d5 + d6 + d7)) := by omega
  generalize 256 * (256 * (256 * (256 * (256 * (256 * d7 + (d6 + d7)) + (d5 + d6 + d7)) + (d4 + d5 + d6 + d7)) + (d3 + d4 + d5 + d6 + d7)) + (d2 + d3 + d4 + d5 + (d6 + d7))) + (d1 + d2 + d3 + d4 + (d5 + d6 + d7)) = A at e6
  omega
end OC
set_option linter.unusedVariables false
set_option linter.unusedSimpArgs false
namespace Gp
open Gw Gq
theorem shrN {a n : Nat} : shrV (a : Int) (n : Int) = ((a / 2 ^ n : Nat) : Int) := by
  unfold shrV
  rw [Int.toNat_natCast, Int.fdiv_eq_ediv_of_nonneg _ (by exact Int.le_of_lt (Int.pow_pos (by decide)))]
  simp
theorem andN {a b : Nat} (ha : a < 18446744073709551616) (hb : b < 18446744073709551616) : andV (a : Int) (b : Int) = ((a &&& b : Nat) : Int) ∧ a &&& b ≤ b := by
  have hle : a &&& b ≤ b := Nat.and_le_right
  refine ⟨?_, hle⟩
  unfold andV
  rw [BitVec.toNat_and, bv_of, bv_of, Nat.mod_eq_of_lt ha, Nat.mod_eq_of_lt hb, u64_id (by omega)]
theorem andI127 {a : Nat} (ha : a < 9223372036854775808) : andI (a : Int) 127 = ((a % 128 : Nat) : Int) := by
  have e1 : (BitVec.ofInt 64 (127 : Int)).toNat = 127 := by decide
  unfold andI
  rw [BitVec.toNat_and, bv_of, e1, Nat.mod_eq_of_lt (by omega), show 127 = 2 ^ 7 - 1 by rfl, Nat.and_two_pow_sub_one_eq_mod]
  have hm : a % 2 ^ 7 < 2 ^ 7 := Nat.mod_lt _ (by decide)
  have := w64_id (n := ((a % 2 ^ 7 : Nat) : Int)) (by omega) (by omega)
  exact this
theorem ones_eq {w : Nat} (hw : w < 18446744073709551616) : ∃ r : Nat, bits_OnesCount64 (w : Int) = some (r : Int) ∧ r ≤ 127 ∧ (r = 0 → w = 0) ∧ (w = 0 → r = 0) := by
  obtain ⟨y, hy, hy1, hy2, hy3⟩ := OC.fin w hw
  have s1' : ∀ n : Nat, shrV (n : Int) 1 = ((n / 2 : Nat) : Int) := fun n => shrN (n := 1)
  have s2' : ∀ n : Nat, shrV (n : Int) 2 = ((n / 4 : Nat) : Int) := fun n => shrN (n := 2)
  have s4' : ∀ n : Nat, shrV (n : Int) 4 = ((n / 16 : Nat) : Int) := fun n => shrN (n := 4)
  have s8' : ∀ n : Nat, shrV (n : Int) 8 = ((n / 256 : Nat) : Int) := fun n => shrN (n := 8)
  have s16' : ∀ n : Nat, shrV (n : Int) 16 = ((n / 65536 : Nat) : Int) := fun n => shrN (n := 16)
  have s32' : ∀ n : Nat, shrV (n : Int) 32 = ((n / 4294967296 : Nat) : Int) := fun n => shrN (n := 32)
  have a1 : Go.IntKind.wrap .u64 (andV (shrV (w : Int) 1) 6148914691236517205 + andV (w : Int) 6148914691236517205) = ((OC.s1 (OC.rep 85 8) w : Nat) : Int) ∧ OC.s1 (OC.rep 85 8) w ≤ 12297829382473034410 := by
    obtain ⟨p1, p2⟩ := andN (a := w / 2) (b := 6148914691236517205) (by omega) (by omega)
    obtain ⟨q1, q2⟩ := andN (a := w) (b := 6148914691236517205) (by omega) (by omega)
    have e : OC.s1 (OC.rep 85 8) w = (w / 2 &&& 6148914691236517205) + (w &&& 6148914691236517205) := rfl
    rw [s1', show (6148914691236517205 : Int) = ((6148914691236517205 : Nat) : Int) by rfl, p1, q1, e]
    exact ⟨by rw [← Int.natCast_add, u64_id (by omega)], by omega⟩
  obtain ⟨a1, b1⟩ := a1
  unfold bits_OnesCount64
  rw [a1]
  generalize hx1 : OC.s1 (OC.rep 85 8) w = x1 at *
  have a2 : Go.IntKind.wrap .u64 (andV (shrV (x1 : Int) 2) 3689348814741910323 + andV (x1 : Int) 3689348814741910323) = ((OC.s2 (OC.rep 51 8) x1 : Nat) : Int) ∧ OC.s2 (OC.rep 51 8) x1 ≤ 7378697629483820646 := by
    obtain ⟨p1, p2⟩ := andN (a := x1 / 4) (b := 3689348814741910323) (by omega) (by omega)
    obtain ⟨q1, q2⟩ := andN (a := x1) (b := 3689348814741910323) (by omega) (by omega)
    have e : OC.s2 (OC.rep 51 8) x1 = (x1 / 4 &&& 3689348814741910323) + (x1 &&& 3689348814741910323) := rfl
    rw [s2', show (3689348814741910323 : Int) = ((3689348814741910323 : Nat) : Int) by rfl, p1, q1, e]
    exact ⟨by rw [← Int.natCast_add, u64_id (by omega)], by omega⟩
  obtain ⟨a2, b2⟩ := a2
  rw [a2]
  generalize hx2 : OC.s2 (OC.rep 51 8) x1 = x2 at *
  have a3 : andV (Go.IntKind.wrap .u64 (shrV (x2 : Int) 4 + (x2 : Int))) 1085102592571150095 = (y : Int) := by
    have e : OC.F 8 w = (x2 / 16 + x2) &&& 1085102592571150095 := by
      show OC.s3 (OC.rep 15 8) (OC.s2 (OC.rep 51 8) (OC.s1 (OC.rep 85 8) w)) = _
      rw [hx1, hx2]; rfl
    rw [s4', ← Int.natCast_add, u64_id (by omega), show (1085102592571150095 : Int) = ((1085102592571150095 : Nat) : Int) by rfl, (andN (by omega) (by omega)).1, ← e, hy]
  rw [a3]
  have a4 : Go.IntKind.wrap .u64 ((y : Int) + shrV (y : Int) 8) = ((y + y / 256 : Nat) : Int) := by
    rw [s8', ← Int.natCast_add, u64_id (by omega)]
  rw [a4]
  generalize hx4 : y + y / 256 = x4 at *
  have a5 : Go.IntKind.wrap .u64 ((x4 : Int) + shrV (x4 : Int) 16) = ((x4 + x4 / 65536 : Nat) : Int) := by
    rw [s16', ← Int.natCast_add, u64_id (by omega)]
  rw [a5]
  generalize hx5 : x4 + x4 / 65536 = x5 at *
  have a6 : Go.IntKind.wrap .u64 ((x5 : Int) + shrV (x5 : Int) 32) = ((x5 + x5 / 4294967296 : Nat) : Int) := by
    rw [s32', ← Int.natCast_add, u64_id (by omega)]
  rw [a6]
  generalize hx6 : x5 + x5 / 4294967296 = x6 at *
  rw [w64_id (by omega) (by omega), andI127 hy2]
  refine ⟨_, rfl, by omega, hy3, fun h => ?_⟩
  subst h
  have z1 : x1 = 0 := by rw [← hx1]; decide
  subst z1
  have z2 : x2 = 0 := by rw [← hx2]; decide
  subst z2
  have z3 : y = 0 := by rw [← hy]; decide
  omega
theorem word_zero {c : A16_Int} (hc : okC c) : (∀ y : Nat, y < 1024 → hasC c y = false) ↔ ∀ i : Nat, i < 16 → getI (wdsA c) (i : Int) = 0 := by
  constructor
  · intro h i hi
    obtain ⟨n, en, hn⟩ := hc i hi
    rw [en]
    have : n = 0 := by
      refine Nat.eq_of_testBit_eq fun j => ?_
      rw [Nat.zero_testBit]
      by_cases hj : j < 64
      · have := h (64 * i + j) (by omega)
        unfold hasC at this
        rw [show (64 * i + j) / 64 = i by omega, show (64 * i + j) % 64 = j by omega, en, Int.toNat_natCast] at this
        exact this
      · exact Nat.testBit_lt_two_pow (Nat.lt_of_lt_of_le hn (Nat.pow_le_pow_right (n := 2) (i := 64) (by omega) (by omega)))
    rw [this]; rfl
  · intro h y hy
    unfold hasC
    rw [h (y / 64) (by omega)]
    simp
theorem pr_l3 {c : A16_Int} (hc : okC c) : ∀ (d x k acc : Nat), x + d = 16 → d < k → acc ≤ 127 * x → ∃ r : Nat, strip_Rows.l3 k acc x c = some (r : Int) ∧ (r = 0 ↔ acc = 0 ∧ ∀ i : Nat, x ≤ i → i < 16 → getI (wdsA c) (i : Int) = 0)
  | 0, x, k, acc, e, hk, ha => by
    obtain ⟨k, rfl⟩ : ∃ m, k = m + 1 := ⟨k - 1, by omega⟩
    refine ⟨acc, by rw [strip_Rows.l3, if_neg (by simp; omega)], fun h => ⟨h, fun i h1 h2 => by omega⟩, fun h => h.1⟩
  | d + 1, x, k, acc, e, hk, ha => by
    obtain ⟨k, rfl⟩ : ∃ m, k = m + 1 := ⟨k - 1, by omega⟩
    have hwx : w64 ((x : Int) + 1) = ((x + 1 : Nat) : Int) := by rw [w64_id (by omega) (by omega)]; rfl
    obtain ⟨n, en, hn⟩ := hc x (by omega)
    obtain ⟨r, h1, h2, h3, h4⟩ := ones_eq hn
    have hwa : w64 ((acc : Int) + (r : Int)) = ((acc + r : Nat) : Int) := by rw [w64_id (by omega) (by omega)]; rfl
    obtain ⟨r', e1, e2⟩ := pr_l3 hc d (x + 1) k (acc + r) (by omega) (by omega) (by omega)
    refine ⟨r', by rw [strip_Rows.l3, if_pos (by simp; omega), if_pos (by omega), get_wds, en, h1, Option.bind_some, hwx, hwa, e1], ?_⟩
    rw [e2]
    constructor
    · rintro ⟨h5, h6⟩
      refine ⟨by omega, fun i hi1 hi2 => ?_⟩
      by_cases ei : i = x
      · rw [ei, en, h3 (by omega)]; rfl
      · exact h6 i (by omega) hi2
    · rintro ⟨h5, h6⟩
      have hz : n = 0 := by
        have := h6 x (by omega) (by omega)
        rw [en] at this
        omega
      exact ⟨by have := h4 hz; omega, fun i hi1 hi2 => h6 i (by omega) hi2⟩
def rowsX (s : List Tile) : Int × Int := match firstNo (fun n => (List.range s.length).any (begN s n)) (s.length + 1) 0 with
  | none => (0, 6)
  | some n => ((n : Int), 0)
theorem pr_l1 {s : List Tile} (hs : colB4 s) (hls : s.length ≤ 1000) : ∀ (d x k : Nat) (c : A16_Int), x + d = 1001 → d + 1100 < k → AtI s x c → strip_Rows.l1 k c x s = some (match firstNo (fun n => (List.range s.length).any (begN s n)) d x with
    | none => .inr ()
    | some n => .inl ((n : Int), 0))
  | 0, x, k, c, e, hk, h => by
    obtain ⟨k, rfl⟩ : ∃ m, k = m + 1 := ⟨k - 1, by omega⟩
    rw [strip_Rows.l1, if_neg (by simp; omega)]; rfl
  | d + 1, x, k, c, e, hk, h => by
    obtain ⟨k, rfl⟩ : ∃ m, k = m + 1 := ⟨k - 1, by omega⟩
    have hwx : w64 ((x : Int) + 1) = ((x + 1 : Nat) : Int) := by rw [w64_id (by omega) (by omega)]; rfl
    obtain ⟨c', h1, h2, h3⟩ := pr_l2 hs hls h.1 s.length 0 k zC (by omega) (by omega) okC_z (fun y hy => by rw [hasC_zL hy]; simp)
    have h1 : strip_Rows.l2 k (A16_Int.mk 0 0 0 0 0 0 0 0 0 0 0 0 0 0 0 0) 0 s c = some c' := h1
    obtain ⟨g1, g2⟩ := at_step hs h h2 h3
    obtain ⟨r, e1, e2⟩ := pr_l3 h2 16 0 k 0 (by omega) (by omega) (by omega)
    have e1 : strip_Rows.l3 k 0 0 c' = some (r : Int) := e1
    rw [strip_Rows.l1, if_pos (by simp; omega), h1, Option.bind_some, e1, Option.bind_some, hwx, firstNo]
    have hr : r = 0 ↔ (List.range s.length).any (begN s x) = false := by
      rw [e2, ← g2, word_zero h2]
      exact ⟨fun h i hi => h.2 i (by omega) hi, fun h => ⟨rfl, fun i _ hi => h i hi⟩⟩
    cases hb : (List.range s.length).any (begN s x)
    · have := hr.2 hb
      subst this
      rw [if_pos (by simp), if_neg (by simp)]
    · have : r ≠ 0 := fun e => by rw [hr.1 e] at hb; cases hb
      rw [if_neg (by simpa using this), if_pos rfl]
      exact pr_l1 hs hls d (x + 1) k c' (by omega) (by omega) g1
theorem rows_eq {s : List Tile} (hv : validT s = true) {k : Nat} (hk : 5000 < k) : strip_Rows k s = some (rowsX s) := by
  have hl := valid_len hv
  have hs := colB4_of hv
  obtain ⟨c, h1, h2, h3⟩ := pr_l0 1000 0 k zC (by omega) (by omega) okC_z (fun y hy => by rw [hasC_z hy]; simp)
  have h1 : strip_Rows.l0 k (A16_Int.mk 0 0 0 0 0 0 0 0 0 0 0 0 0 0 0 0) 0 = some c := h1
  have l1 := pr_l1 hs hl 1001 0 k c (by omega) (by omega) ⟨h2, fun y hy => by rw [h3 y hy]; simp⟩
  have l1 : strip_Rows.l1 k c 0 s = _ := l1
  unfold strip_Rows rowsX
  rw [tile_valid s (by omega) (by omega), Option.bind_some, hv, if_neg (by simp), h1, Option.bind_some, l1, Option.bind_some, firstNo_beg hl]
  cases firstNo (fun n => (List.range s.length).any (begN s n)) (s.length + 1) 0 <;> rfl
theorem rows_bad {s : List Tile} (hl : s.length ≤ 9223372036854775807) (hv : validT s = false) {k : Nat} (hk : 5000 < k) : strip_Rows k s = some (0, 1) := by
  unfold strip_Rows
  rw [tile_valid s (by omega) (by omega), Option.bind_some, hv]; rfl
end Gp
set_option linter.unusedVariables false
set_option linter.unusedSimpArgs false
namespace Gp
open Gw Gq
theorem core_bad {s : List Tile} (hl : s.length ≤ 9223372036854775807) (hv : validT s = false) {k : Nat} (hk : 5000 < k) : strip_Core k s = some ([], 1) := by
  unfold strip_Core
  rw [tile_valid s (by omega) (by omega), Option.bind_some, hv]; rfl
theorem law04_StripCores_pure : ∀ (p0 : List Tile), ((∀ x ∈ p0, ok_Tile x) ∧ p0.length ≤ Go.maxLen) → ∃ k, law04_StripCores k p0 = some true := by
  intro s hs
  have hl : s.length ≤ 9223372036854775807 := hs.2
  refine ⟨2000000, ?_⟩
  have aw : law04_awake 2000000 = some true := awake04_ok 1998700
  unfold law04_StripCores
  by_cases h11 : (s.length : Int) > 1100
  · rw [if_pos (decide_eq_true h11), Option.bind_some, if_pos rfl, aw]; rfl
  rw [if_neg (by simpa using h11), valid01 s (by omega) hl, Option.bind_some, Option.bind_some]
  cases hv : validT s
  · rw [if_neg (by simp), core_bad hl hv (by omega), Option.bind_some, rows_bad hl hv (by omega), Option.bind_some, Option.bind_some, if_pos (by decide), if_pos (by decide), aw]; rfl
  by_cases h60 : s.length ≤ 60
  rotate_left
  · rw [if_pos (by simp; omega), aw]; rfl
  have hcl : (coreC s).length ≤ s.length := by have := (coreC_sub s).length_le; simpa [idxL] using this
  rw [if_neg (by simp; omega), core_eq hv (by omega), Option.bind_some, rows_eq hv (by omega), Option.bind_some, Option.bind_some, if_neg (by decide), if_neg (by simp), refCore_eq (by omega) (by omega), Option.bind_some, same01 (coreC s) (by omega) (by omega), Option.bind_some, Option.bind_some, if_neg (by decide), refRows_eq (by omega) (by omega), Option.bind_some]
  unfold rowsX
  cases firstNo (fun n => (List.range s.length).any (begN s n)) (s.length + 1) 0 with
  | none =>
    show (if (!false) = true then ((if ((6 : Int) == 6 && (0 : Int) == 0) = true then ((law04_awake 2000000).bind fun t => some t) else (some false)).bind fun x => some x) else _) = _
    rw [if_pos (by decide), if_pos (by decide), aw]; rfl
  | some n =>
    show (if (!true) = true then _ else ((if ((0 : Int) == 0 && (n : Int) == (n : Int)) = true then ((law04_awake 2000000).bind fun t => some t) else (some false)).bind fun x => some x)) = _
    rw [if_neg (by decide), if_pos (by simp), aw]; rfl
end Gp
