/- The plain law: what the functions compute answers as the statement says. -/
import Derived.Test.YtchikbfmbfoaoaaDoorGp
import Derived.KernelRfl
set_option linter.unusedVariables false
set_option linter.unusedSimpArgs false
namespace Gq
open Go Gw Gp
/-! ### numbers and lists -/
theorem w64_id {n : Int} (h0 : -9223372036854775808 ≤ n) (h1 : n ≤ 9223372036854775807) : w64 n = n := by
  show IntKind.i64.wrap n = n
  have e : IntKind.i64.wrap n = if (true && decide (n % 18446744073709551616 ≥ 9223372036854775808)) = true then n % 18446744073709551616 - 18446744073709551616 else n % 18446744073709551616 := rfl
  rw [e]
  simp only [Bool.true_and, decide_eq_true_eq]
  split <;> omega
theorem rdD_nat {α : Type} (xs : List α) (i : Nat) (d : α) : rdD xs (i : Int) d = xs.getD i d := by simp [rdD]
theorem rdD_get {α : Type} {xs : List α} {i : Nat} (h : i < xs.length) (d : α) : rdD xs (i : Int) d = xs[i] := by
  simp [rdD, List.getD, List.getElem?_eq_getElem h]
def firstS {α β : Type} (g : Nat → α → Option β) : Nat → List α → Option β
  | _, [] => none
  | i, a :: r => match g i a with
    | some b => some b
    | none => firstS g (i + 1) r
def fin {β : Type} : Option β → Sum β Unit
  | some b => .inl b
  | none => .inr ()
theorem scan {α β : Type} {F : Nat → Int → Option (Sum β Unit)} {xs : List α} {g : Nat → α → Option β}
    (hF : ∀ k (i : Nat), i ≤ xs.length → F (k + 1) (i : Int) = if h : i < xs.length then (match g i xs[i] with | some b => some (.inl b) | none => F k ((i + 1 : Nat) : Int)) else some (.inr ())) :
    ∀ (n k i : Nat), i + n = xs.length → n < k → F k (i : Int) = some (fin (firstS g i (xs.drop i)))
  | 0, k, i, hi, hk => by
    obtain ⟨k, rfl⟩ : ∃ m, k = m + 1 := ⟨k - 1, by omega⟩
    have hi : i = xs.length := by omega
    subst hi
    rw [hF k _ (Nat.le_refl _), dif_neg (Nat.lt_irrefl _), List.drop_length]; rfl
  | n + 1, k, i, hi, hk => by
    obtain ⟨k, rfl⟩ : ∃ m, k = m + 1 := ⟨k - 1, by omega⟩
    have hlt : i < xs.length := by omega
    rw [hF k i (by omega), dif_pos hlt, List.drop_eq_getElem_cons hlt, firstS]
    cases hg : g i xs[i] with
    | some b => rfl
    | none => exact scan hF n k (i + 1) (by omega) (by omega)
end Gq
set_option linter.unusedVariables false
set_option linter.unusedSimpArgs false
namespace Gq
end Gq
namespace Gp
open Gw Gq
/-! ### the tiles of a machine -/
def hd (Y q s : Nat) : Int := ((Y + q * Y + s : Nat) : Int)
end Gp
set_option linter.unusedVariables false
set_option linter.unusedSimpArgs false
namespace Gp
open Gw Gq
/-! the reference -/
/-! equal sets -/
end Gp
set_option linter.unusedVariables false
set_option linter.unusedSimpArgs false
namespace Gq
end Gq
namespace Gp
open Gw Gq
/-! ### where the tiles of a machine lie -/
end Gp
set_option linter.unusedVariables false
set_option linter.unusedSimpArgs false
namespace Gp
open Gw Gq
/-! ### the tile that shows a cell of a step -/
theorem Tile.ext' {a b : Tile} (h1 : a.N = b.N) (h2 : a.E = b.E) (h3 : a.S = b.S) (h4 : a.W = b.W) : a = b := by
  cases a; cases b; simp only at h1 h2 h3 h4; subst h1 h2 h3 h4; rfl
end Gp
set_option linter.unusedVariables false
set_option linter.unusedSimpArgs false
namespace Gq
theorem loop_all {σ ρ τ : Type} {F : Nat → Int → σ → Option (Sum ρ τ)} {S : Nat → σ} {b : Nat → Bool} {n K : Nat} {r : ρ} {e : τ} (hs : ∀ k i, K ≤ k → i < n → F (k + 1) (i : Int) (S i) = if b i = true then F k ((i + 1 : Nat) : Int) (S (i + 1)) else some (.inl r)) (he : ∀ k, F (k + 1) (n : Int) (S n) = some (.inr e)) :
    ∀ k, n + K < k → F k 0 (S 0) = some (if (List.range n).all b = true then .inr e else .inl r) := by
  have key : ∀ d i k, i + d = n → d + K < k → F k (i : Int) (S i) = some (if (List.range' i d).all b = true then .inr e else .inl r) := by
    intro d
    induction d with
    | zero =>
      intro i k hi hk
      obtain ⟨k, rfl⟩ : ∃ m, k = m + 1 := ⟨k - 1, by omega⟩
      have : i = n := by omega
      subst this; rw [he]; rfl
    | succ d ih =>
      intro i k hi hk
      obtain ⟨k, rfl⟩ : ∃ m, k = m + 1 := ⟨k - 1, by omega⟩
      rw [hs k i (by omega) (by omega), List.range'_succ, List.all_cons]
      cases hb : b i
      · rfl
      · rw [if_pos rfl, ih (i + 1) k (by omega) (by omega)]; rfl
  intro k hk
  rw [List.range_eq_range']
  exact key n 0 k (by omega) hk
theorem firstS_ge' {α : Type} {p : α → Bool} : ∀ (xs : List α) (i : Nat), (match firstS (fun i a => if p a = true then none else some (i : Int)) i xs with
    | some x => decide (0 ≤ x)
    | none => false) = !xs.all p
  | [], i => rfl
  | a :: r, i => by
    rw [firstS]
    cases h : p a
    · simp [h]
    · simp only [if_true, List.all_cons, h, Bool.true_and]
      exact firstS_ge' r (i + 1)
end Gq
namespace Gp
open Gw Gq
/-! ### sets of tiles and patterns -/
def inCol (c : Int) : Bool := decide (0 ≤ c ∧ c < 1000)
def colB (t : Tile) : Bool := inCol t.N && inCol t.E && inCol t.S && inCol t.W
theorem idx_col (xs : List Int) (hl : xs.length ≤ 1000000) (k : Nat) (hk : xs.length < k) :
    slices_IndexFunc_int_int_with_tile_colour_1.l0 k 0 xs = some (fin (firstS (fun i a => if inCol a = true then none else some (i : Int)) 0 xs)) := by
  have := scan (F := fun k i => slices_IndexFunc_int_int_with_tile_colour_1.l0 k i xs) (xs := xs) (g := fun i a => if inCol a = true then none else some (i : Int)) (fun k i hi => by
    show slices_IndexFunc_int_int_with_tile_colour_1.l0 (k + 1) i xs = _
    rw [slices_IndexFunc_int_int_with_tile_colour_1.l0]
    by_cases h : i < xs.length
    · have h' : (i : Int) < (xs.length : Int) := by omega
      have h2 : 0 ≤ (i : Int) ∧ (i : Int) < (xs.length : Int) := by omega
      rw [dif_pos h, if_pos (by simpa using h'), if_pos h2, rdD_get h, tile_colour_1, w64_id (by omega) (by omega)]
      by_cases hb : 0 ≤ xs[i] ∧ xs[i] < 1000
      · have h3 : ¬ (xs[i] < 0 ∨ 1000 ≤ xs[i]) := by omega
        simp [inCol, hb]
        intro hh; exact absurd hh h3
      · have h3 : (xs[i] < 0 ∨ 1000 ≤ xs[i]) := by omega
        simp [inCol, hb, h3]
    · have h' : ¬ (i : Int) < (xs.length : Int) := by omega
      rw [dif_neg h, if_neg (by simpa using h')]) xs.length k 0 (by simp) hk
  simpa using this
theorem colour_eq (xs : List Int) (hl : xs.length ≤ 1000000) (k : Nat) (hk : xs.length < k) : tile_colour k xs = some (xs.all inCol) := by
  unfold tile_colour slices_ContainsFunc_int_int_with_tile_colour_1 slices_IndexFunc_int_int_with_tile_colour_1
  rw [idx_col xs hl k hk]
  have := firstS_ge' (p := inCol) xs 0
  cases hf : firstS (fun i a => if inCol a = true then none else some (i : Int)) 0 xs <;> rw [hf] at this <;> cases ha : xs.all inCol <;> rw [ha] at this <;> simp [fin, sumb] at this ⊢
  · exact this
  · exact this
def metS (set : List Tile) (i : Nat) : List (Tile × Bool) := (set.take i).map fun t => (t, true)
theorem mget_met (t : Tile) : ∀ l : List Tile, mget t false (l.map fun t => (t, true)) = decide (t ∈ l)
  | [] => rfl
  | a :: r => by
    simp only [List.map_cons, mget]
    by_cases h : t = a
    · simp [h]
    · rw [if_neg h, mget_met t r]; simp [h]
theorem mput_met (t : Tile) : ∀ l : List Tile, t ∉ l → mput t true (l.map fun t => (t, true)) = (l.map fun t => (t, true)) ++ [(t, true)]
  | [], _ => rfl
  | a :: r, h => by
    simp only [List.mem_cons, not_or] at h
    simp only [List.map_cons, mput, if_neg h.1, mput_met t r h.2, List.cons_append]
def newB (set : List Tile) (i : Nat) : Bool := !decide (set.getD i z_Tile ∈ set.take i) && colB (set.getD i z_Tile)
def validT (set : List Tile) : Bool := decide (set.length ≤ 1000) && (List.range set.length).all (newB set)
theorem tile_valid (set : List Tile) {k : Nat} (hk : 1006 ≤ k) (hl : set.length ≤ 9223372036854775807) : tile_Valid k set = some (validT set) := by
  unfold tile_Valid validT
  by_cases hb : set.length ≤ 1000
  · rw [if_neg (by simp; omega)]
    have := loop_all (F := fun k i (m : List (Tile × Bool)) => tile_Valid.l0 k m i set) (S := metS set) (b := newB set) (n := set.length) (K := 5) (r := false) (e := ()) (fun k i hk hi => by
      show tile_Valid.l0 (k + 1) (metS set i) i set = if newB set i = true then tile_Valid.l0 k (metS set (i + 1)) ((i + 1 : Nat) : Int) set else _
      rw [tile_Valid.l0, if_pos (by simpa using hi), if_pos (by omega), rdD_nat, metS, mget_met]
      have ht : set.getD i z_Tile = set[i] := by simp [List.getElem?_eq_getElem hi]
      unfold newB
      by_cases hm : set.getD i z_Tile ∈ set.take i
      · rw [if_pos (by simpa using hm), show decide (set.getD i z_Tile ∈ set.take i) = true from decide_eq_true hm]; rfl
      · rw [if_neg (by simpa using hm), colour_eq _ (by simp) k (by simp; omega), Option.bind_some, Option.bind_some]
        have hc : ([(set.getD i z_Tile).N, (set.getD i z_Tile).E, (set.getD i z_Tile).S, (set.getD i z_Tile).W].all inCol) = colB (set.getD i z_Tile) := by simp [colB, Bool.and_assoc]
        rw [hc]
        cases hcb : colB (set.getD i z_Tile)
        · simp
        · rw [mput_met _ _ hm, w64_id (by omega) (by omega)]
          simp only [hm, Bool.not_true, Bool.false_eq_true, if_false, decide_false, Bool.not_false, Bool.and_self, if_true]
          unfold metS
          rw [List.take_add_one, List.map_append, List.getElem?_eq_getElem hi, ht]; rfl) (fun k => by
      show tile_Valid.l0 (k + 1) (metS set set.length) set.length set = _
      rw [tile_Valid.l0, if_neg (by simp)]) k (by omega)
    have h0 : tile_Valid.l0 k [] 0 set = some (if (List.range set.length).all (newB set) = true then .inr () else .inl false) := this
    rw [h0]
    cases (List.range set.length).all (newB set) <;> simp [sumb, hb]
  · rw [if_pos (by simp; omega)]; simp [hb]
end Gp
set_option linter.unusedVariables false
set_option linter.unusedSimpArgs false
namespace Gp
open Gw Gq
/-! ### the pictures are patterns of the tiles -/
end Gp
set_option linter.unusedVariables false
set_option linter.unusedSimpArgs false
namespace Gq
end Gq
namespace Gp
open Gw Gq
/-! ### the patterns of the statements' own reference -/
end Gp
set_option linter.unusedVariables false
set_option linter.unusedSimpArgs false
namespace Gp
open Gw Gq
end Gp
set_option linter.unusedVariables false
set_option linter.unusedSimpArgs false
namespace Gp
open Gw Gq
/-! ### a torus, repeated -/
end Gp
set_option linter.unusedVariables false
set_option linter.unusedSimpArgs false
namespace Gp
open Gw Gq
/-! ### the first layer's reference -/
theorem colour01 (c : Int) : ref01_colour c = some (inCol c) := by
  unfold ref01_colour inCol
  by_cases h : 0 ≤ c ∧ c < 1000
  · simp [h]
  · rw [decide_eq_false h]
    congr 1
    cases h1 : decide (c ≥ 0)
    · rfl
    · have : ¬ c < 1000 := fun h2 => h ⟨by simpa using h1, h2⟩
      simp [this]
theorem index01 {set : List Tile} (hl : set.length ≤ 1000000) (t : Tile) {k : Nat} (hk : set.length < k) : ∃ r : Int, ref01_Index k set t = some r ∧ decide (r ≥ 0) = decide (t ∈ set) := by
  have := scan (F := fun k i => ref01_Index.l0 k i set t) (xs := set) (g := fun i a => if a = t then some (i : Int) else none) (fun k i hi => by
    show ref01_Index.l0 (k + 1) i set t = _
    rw [ref01_Index.l0]
    by_cases h : i < set.length
    · have h2 : 0 ≤ (i : Int) ∧ (i : Int) < (set.length : Int) := by omega
      rw [dif_pos h, if_pos (by simpa using h), if_pos h2, rdD_get h, w64_id (by omega) (by omega)]
      by_cases hb : set[i] = t
      · subst hb; simp
      · have : ((set[i].N == t.N) && ((set[i].E == t.E) && ((set[i].S == t.S) && (set[i].W == t.W)))) = false := by
          cases hc : ((set[i].N == t.N) && ((set[i].E == t.E) && ((set[i].S == t.S) && (set[i].W == t.W))))
          · rfl
          · simp only [Bool.and_eq_true, beq_iff_eq] at hc
            exact absurd (Tile.ext' hc.1 hc.2.1 hc.2.2.1 hc.2.2.2) hb
        rw [this, if_neg hb]; rfl
    · rw [dif_neg h, if_neg (by simpa using h)]) set.length k 0 (by simp) hk
  have h0 : ref01_Index.l0 k 0 set t = some (fin (firstS (fun i a => if a = t then some (i : Int) else none) 0 (set.drop 0))) := this
  rw [List.drop_zero] at h0
  have key : ∀ (l : List Tile) (i : Nat), match firstS (fun i a => if a = t then some (i : Int) else none) i l with
      | some x => decide (x ≥ 0) = decide (t ∈ l)
      | none => decide (t ∈ l) = false := by
    intro l
    induction l with
    | nil => intro i; simp [firstS]
    | cons a r ih =>
      intro i
      rw [firstS]
      by_cases ha : a = t
      · subst ha; simp
      · have hne : ¬ t = a := fun e => ha e.symm
        rw [if_neg ha]
        have := ih (i + 1)
        cases hf : firstS (fun i a => if a = t then some (i : Int) else none) (i + 1) r with
        | none => rw [hf] at this; simp only [List.mem_cons, hne, false_or]; exact this
        | some x => rw [hf] at this; simp only [List.mem_cons, hne, false_or]; exact this
  unfold ref01_Index
  rw [h0]
  have hk2 := key set 0
  cases hf : firstS (fun i a => if a = t then some (i : Int) else none) 0 set with
  | none => rw [hf] at hk2; exact ⟨-1, rfl, by rw [hk2]; rfl⟩
  | some x => rw [hf] at hk2; exact ⟨x, rfl, hk2⟩
theorem valid01 (set : List Tile) {k : Nat} (hk : 2002 < k) (hl : set.length ≤ 9223372036854775807) : ref01_Valid k set = some (validT set) := by
  unfold ref01_Valid validT
  by_cases hb : set.length ≤ 1000
  · rw [if_neg (by simp; omega)]
    have := loop_all (F := fun k i (_ : Unit) => ref01_Valid.l0 k i set) (S := fun _ => ()) (b := newB set) (n := set.length) (K := 1001) (r := false) (e := ()) (fun k i hk hi => by
      show ref01_Valid.l0 (k + 1) i set = if newB set i = true then ref01_Valid.l0 k ((i + 1 : Nat) : Int) set else _
      have hcut : cut set (0 : Int) (i : Int) = set.take i := by unfold cut; simp
      obtain ⟨r, hr, hd⟩ := index01 (set := set.take i) (by rw [List.length_take]; omega) (set.getD i z_Tile) (k := k) (by rw [List.length_take]; omega)
      rw [ref01_Valid.l0, if_pos (by simpa using hi), if_pos (by omega)]
      simp only [rdD_nat, colour01, Option.bind_some, hcut]
      rw [if_pos (⟨by omega, by omega, by omega⟩ : 0 ≤ (0 : Int) ∧ (0 : Int) ≤ (i : Int) ∧ (i : Int) ≤ (set.length : Int)), hr, w64_id (by omega) (by omega)]
      simp only [Option.bind_some, hd]
      unfold newB colB
      cases inCol (set.getD i z_Tile).N
      · simp
      · cases inCol (set.getD i z_Tile).E
        · simp
        · cases inCol (set.getD i z_Tile).S
          · simp
          · cases inCol (set.getD i z_Tile).W
            · simp
            · cases decide (set.getD i z_Tile ∈ set.take i) <;> simp) (fun k => by
      show ref01_Valid.l0 (k + 1) set.length set = _
      rw [ref01_Valid.l0, if_neg (by simp)]) k (by omega)
    have h0 : ref01_Valid.l0 k 0 set = some (if (List.range set.length).all (newB set) = true then .inr () else .inl false) := this
    rw [h0]
    cases (List.range set.length).all (newB set) <;> simp [sumb, hb]
  · rw [if_pos (by simp; omega)]; simp [hb]
end Gp
set_option linter.unusedVariables false
set_option linter.unusedSimpArgs false
namespace Gp
open Gw Gq
/-! ### grids: lists of rows -/
def grid (w h : Nat) (g : Nat → Nat → Int) : List Int := (List.range h).flatMap fun y => (List.range w).map (g y)
/-! ### stores into a list -/
def sets (l : List Int) (q : List (Nat × Int)) : List Int := q.foldl (fun l p => l.set p.1 p.2) l
/-! ### patterns that have the form of one -/
theorem succ64 {x : Nat} (h : x ≤ 1000000) : w64 ((x : Int) + 1) = ((x + 1 : Nat) : Int) := by rw [w64_id (by omega) (by omega)]; rfl
/-! ### the changed patterns -/
end Gp
set_option linter.unusedVariables false
set_option linter.unusedSimpArgs false
namespace Gp
open Gw Gq
/-! ### cuts -/
/-! ### patterns, repeated -/
/-! ### what is equal -/
theorem same01 (l : List Int) (hl : l.length ≤ 1000000) {k : Nat} (hk : l.length < k) : ref01_Same k l l = some true := by
  have := loop_all (F := fun k i (_ : Unit) => ref01_Same.l0 k i l l) (S := fun _ => ()) (b := fun _ => true) (n := l.length) (K := 0) (r := false) (e := ()) (fun k i _ hi => by
    show ref01_Same.l0 (k + 1) i l l = if true = true then ref01_Same.l0 k ((i + 1 : Nat) : Int) l l else _
    rw [ref01_Same.l0, if_pos (by simpa using hi), if_pos (by omega), if_pos (by omega), if_neg (by simp), succ64 (by omega), if_pos rfl]) (fun k => by
    show ref01_Same.l0 (k + 1) l.length l l = _
    rw [ref01_Same.l0, if_neg (by simp)]) k (by omega)
  have this : ref01_Same.l0 k 0 l l = some (if (List.range l.length).all (fun _ => true) = true then .inr () else .inl false) := this
  unfold ref01_Same
  rw [if_neg (by simp), this, if_pos (by simp)]; rfl
end Gp
set_option linter.unusedVariables false
set_option linter.unusedSimpArgs false
namespace Gp
open Gw Gq
/-! ### changed sets -/
structure Chg (f : Tile → Tile) : Prop where
  inj : ∀ a b, f a = f b → a = b
  col : ∀ t, colB (f t) = colB t
theorem getD_map (f : Tile → Tile) {s : List Tile} {i : Nat} (h : i < s.length) : (s.map f).getD i z_Tile = f (s.getD i z_Tile) := by simp [List.getElem?_eq_getElem h]
theorem Chg.valid {f : Tile → Tile} (c : Chg f) {s : List Tile} (hv : validT s = true) : validT (s.map f) = true := by
  unfold validT at hv ⊢
  simp only [Bool.and_eq_true, decide_eq_true_eq, List.all_eq_true, List.mem_range, List.length_map] at hv ⊢
  refine ⟨hv.1, fun i hi => ?_⟩
  have := hv.2 i hi
  unfold newB at this ⊢
  rw [getD_map f hi, ← List.map_take, c.col]
  simp only [Bool.and_eq_true, Bool.not_eq_true', decide_eq_false_iff_not] at this ⊢
  refine ⟨fun hm => this.1 ?_, this.2⟩
  obtain ⟨a, ha, he⟩ := List.mem_map.1 hm
  rw [← c.inj _ _ he]; exact ha
/-! ### how the tiles of a grid meet -/
def JP (W H : Nat) (round : Bool) (T : Nat → Nat → Tile) : Prop :=
  (∀ y x, y < H → x < W → (x + 1 < W ∨ round = true) → (T y x).E = (T y ((x + 1) % W)).W) ∧ (∀ y x, y < H → x < W → (y + 1 < H ∨ round = true) → (T y x).N = (T ((y + 1) % H) x).S)
theorem JP.congr {W H : Nat} {round : Bool} {T T' : Nat → Nat → Tile} (he : ∀ y x, y < H → x < W → T y x = T' y x) (h : JP W H round T) : JP W H round T' := by
  refine ⟨fun y x hy hx hr => ?_, fun y x hy hx hr => ?_⟩
  · rw [← he y x hy hx, ← he y _ hy (Nat.mod_lt _ (by omega))]; exact h.1 y x hy hx hr
  · rw [← he y x hy hx, ← he _ x (Nat.mod_lt _ (by omega)) hx]; exact h.2 y x hy hx hr
def TT (s : List Tile) (c : Nat → Nat → Int) (y x : Nat) : Tile := s.getD (c y x).toNat z_Tile
structure GOK (s : List Tile) (W H : Nat) (c : Nat → Nat → Int) (whole : Bool) : Prop where
  valid : validT s = true
  dW : 1 ≤ W ∧ W ≤ 40000
  dH : 1 ≤ H ∧ H ≤ 40000
  wh : H * W ≤ 40000
  cel : ∀ y x, y < H → x < W → 0 ≤ c y x ∧ c y x < (s.length : Int)
  fits : JP W H false (TT s c)
  round : whole = true ↔ JP W H true (TT s c)
theorem valid_len {s : List Tile} (hv : validT s = true) : s.length ≤ 1000 := by unfold validT at hv; simp only [Bool.and_eq_true, decide_eq_true_eq] at hv; exact hv.1
theorem GOK.congr {s : List Tile} {W H : Nat} {c c' : Nat → Nat → Int} {whole : Bool} (g : GOK s W H c whole) (he : ∀ y x, y < H → x < W → c y x = c' y x) : GOK s W H c' whole := by
  have ht : ∀ y x, y < H → x < W → TT s c y x = TT s c' y x := fun y x hy hx => by unfold TT; rw [he y x hy hx]
  exact ⟨g.valid, g.dW, g.dH, g.wh, fun y x hy hx => by rw [← he y x hy hx]; exact g.cel y x hy hx, g.fits.congr ht, g.round.trans ⟨fun h => h.congr ht, fun h => h.congr (fun y x hy hx => (ht y x hy hx).symm)⟩⟩
/-! mirrored -/
end Gp
set_option linter.unusedVariables false
set_option linter.unusedSimpArgs false
namespace Gp
open Gw Gq
theorem awake04_ok (k : Nat) : law04_awake (k + 1300) = some true := by kernel_rfl
/-! numbers of pairs -/
end Gp
set_option linter.unusedVariables false
set_option linter.unusedSimpArgs false
namespace Gp
open Gw Gq
end Gp
set_option linter.unusedVariables false
set_option linter.unusedSimpArgs false
namespace Gp
open Gw Gq
/-! the reference -/
end Gp
set_option linter.unusedVariables false
set_option linter.unusedSimpArgs false
namespace Gp
open Gw Gq
end Gp
set_option linter.unusedVariables false
set_option linter.unusedSimpArgs false
set_option maxRecDepth 4000
namespace Gp
open Gw Gq
theorem u64_id {n : Nat} (h : n < 18446744073709551616) : Go.IntKind.u64.wrap (n : Int) = n := by
  simp [Go.IntKind.wrap, Go.IntKind.bits, Go.IntKind.signed]; omega
theorem bv_of {n : Nat} : (BitVec.ofInt 64 (n : Int)).toNat = n % 18446744073709551616 := by
  rw [BitVec.toNat_ofInt]
  show ((n : Int) % ((2 ^ 64 : Nat) : Int)).toNat = _
  have : ((2 ^ 64 : Nat) : Int) = 18446744073709551616 := by decide
  rw [this]; omega
theorem shl1 {x : Nat} (h : x < 64) : shlV 1 (x : Int) = ((2 ^ x : Nat) : Int) := by
  unfold shlV
  rw [Int.toNat_natCast, Int.one_mul]
  have hp : (2 : Nat) ^ x < 18446744073709551616 := by
    have := Nat.pow_lt_pow_right (a := 2) (by omega) h
    exact this
  have : ((2 : Int) ^ x) = ((2 ^ x : Nat) : Int) := by simp
  rw [this, u64_id hp]
theorem orN {a b : Nat} (ha : a < 18446744073709551616) (hb : b < 18446744073709551616) : orV (a : Int) (b : Int) = ((a ||| b : Nat) : Int) ∧ a ||| b < 18446744073709551616 := by
  have hlt : a ||| b < 18446744073709551616 := Nat.or_lt_two_pow (n := 64) ha hb
  refine ⟨?_, hlt⟩
  unfold orV
  rw [BitVec.toNat_or, bv_of, bv_of, Nat.mod_eq_of_lt ha, Nat.mod_eq_of_lt hb, u64_id hlt]
theorem hasN {a x : Nat} (ha : a < 18446744073709551616) (hx : x < 64) : (andV (shrV (a : Int) (x : Int)) 1 == 1) = a.testBit x := by
  have hs : shrV (a : Int) (x : Int) = ((a / 2 ^ x : Nat) : Int) := by
    unfold shrV
    rw [Int.toNat_natCast, Int.fdiv_eq_ediv_of_nonneg _ (by exact Int.le_of_lt (Int.pow_pos (by decide)))]
    simp
  have hd : a / 2 ^ x < 18446744073709551616 := Nat.lt_of_le_of_lt (Nat.div_le_self _ _) ha
  have e1 : (BitVec.ofInt 64 (1 : Int)).toNat = 1 := by decide
  have e2 : andV (shrV (a : Int) (x : Int)) 1 = ((a / 2 ^ x % 2 : Nat) : Int) := by
    unfold andV
    rw [hs, BitVec.toNat_and, bv_of, e1, Nat.mod_eq_of_lt hd, Nat.and_one_is_mod, u64_id (Nat.lt_of_lt_of_le (Nat.mod_lt _ (by omega)) (by omega))]
  rw [e2, Nat.testBit_eq_decide_div_mod_eq, Bool.eq_iff_iff]
  generalize a / 2 ^ x % 2 = m
  simp only [beq_iff_eq, decide_eq_true_eq]
  omega
def wdsA (c : A16_Int) : List Int := [c.e0, c.e1, c.e2, c.e3, c.e4, c.e5, c.e6, c.e7, c.e8, c.e9, c.e10, c.e11, c.e12, c.e13, c.e14, c.e15]
theorem wds_set (c : A16_Int) {i : Int} (hi : 0 ≤ i ∧ i < 16) (v : Int) : wdsA (A16_Int.set c i v) = (wdsA c).set i.toNat v := cases16 (Q := fun z => wdsA (A16_Int.set c z v) = (wdsA c).set z.toNat v) hi rfl rfl rfl rfl rfl rfl rfl rfl rfl rfl rfl rfl rfl rfl rfl rfl
theorem get_wds (c : A16_Int) (i : Int) : A16_Int.get c i = getI (wdsA c) i := rfl
def okC (c : A16_Int) : Prop := ∀ i : Nat, i < 16 → ∃ n : Nat, getI (wdsA c) (i : Int) = n ∧ n < 18446744073709551616
def hasC (c : A16_Int) (x : Nat) : Bool := (getI (wdsA c) ((x / 64 : Nat) : Int)).toNat.testBit (x % 64)
theorem divmod {x : Nat} (hx : x < 1000) : w64 (Int.tdiv (x : Int) 64) = ((x / 64 : Nat) : Int) ∧ Int.tmod (x : Int) 64 = ((x % 64 : Nat) : Int) := by
  have h1 : Int.tdiv (x : Int) 64 = ((x / 64 : Nat) : Int) := rfl
  have h2 : Int.tmod (x : Int) 64 = ((x % 64 : Nat) : Int) := rfl
  exact ⟨by rw [h1, w64_id (by omega) (by omega)], h2⟩
theorem has_eq {c : A16_Int} (hc : okC c) {x : Nat} (hx : x < 1000) : strip_colours_has c (x : Int) = some (hasC c x) := by
  obtain ⟨e1, e2⟩ := divmod hx
  obtain ⟨n, en, hn⟩ := hc (x / 64) (by omega)
  unfold strip_colours_has hasC
  rw [e1, e2, if_pos (by omega), if_pos (by omega), get_wds, en, hasN hn (by omega), Int.toNat_natCast]
theorem put_eq {c : A16_Int} (hc : okC c) {x : Nat} (hx : x < 1000) : ∃ c', strip_colours_put c (x : Int) = some c' ∧ okC c' ∧ ∀ y, y < 1000 → hasC c' y = (hasC c y || decide (y = x)) := by
  obtain ⟨e1, e2⟩ := divmod hx
  obtain ⟨n, en, hn⟩ := hc (x / 64) (by omega)
  have hp : 2 ^ (x % 64) < 18446744073709551616 := Nat.pow_lt_pow_right (a := 2) (by omega) (show x % 64 < 64 by omega)
  obtain ⟨o1, o2⟩ := orN hn hp
  unfold strip_colours_put
  rw [e1, e2, if_pos (by omega), if_pos (by omega), get_wds, en, shl1 (by omega), o1]
  have hg : ∀ i : Nat, i < 16 → getI (wdsA (A16_Int.set c ((x / 64 : Nat) : Int) ((n ||| 2 ^ (x % 64) : Nat) : Int))) (i : Int) = if i = x / 64 then ((n ||| 2 ^ (x % 64) : Nat) : Int) else getI (wdsA c) (i : Int) := fun i hi => by
    rw [wds_set c (by omega)]
    unfold getI
    rw [Int.toNat_natCast, Int.toNat_natCast, List.getD_eq_getElem?_getD, List.getElem?_set]
    by_cases h : x / 64 = i
    · rw [if_pos h, if_pos h.symm, if_pos (by simp [wdsA]; omega)]; rfl
    · rw [if_neg h, if_neg (fun e => h e.symm), List.getD_eq_getElem?_getD]
  refine ⟨_, rfl, fun i hi => ?_, fun y hy => ?_⟩
  · rw [hg i hi]
    split
    · exact ⟨_, rfl, o2⟩
    · exact hc i hi
  · unfold hasC
    rw [hg (y / 64) (by omega)]
    by_cases h : y / 64 = x / 64
    · rw [if_pos h, h, en, Int.toNat_natCast, Int.toNat_natCast, Nat.testBit_or, Nat.testBit_two_pow]
      congr 1
      rw [Bool.eq_iff_iff]; simp; omega
    · rw [if_neg h]
      have : decide (y = x) = false := decide_eq_false fun e => h (by rw [e])
      rw [this, Bool.or_false]
def zC : A16_Int := ⟨0, 0, 0, 0, 0, 0, 0, 0, 0, 0, 0, 0, 0, 0, 0, 0⟩
theorem okC_z : okC zC := fun i hi => ⟨0, by
  have : ∀ j : Fin 16, getI (wdsA zC) ((j : Nat) : Int) = ((0 : Nat) : Int) := by decide
  exact this ⟨i, hi⟩, by omega⟩
theorem hasC_z {x : Nat} (hx : x < 1000) : hasC zC x = false := by
  have : ∀ j : Fin 16, getI (wdsA zC) ((j : Nat) : Int) = 0 := by decide
  have := this ⟨x / 64, by omega⟩
  unfold hasC
  rw [this]; simp
end Gp
set_option linter.unusedVariables false
set_option linter.unusedSimpArgs false
namespace Gp
open Gw Gq
theorem has_el_eq (l : List A16_Int) {i : Nat} (hi : i < l.length) (x : Int) : strip_colours_has_el l (i : Int) x = strip_colours_has l[i] x := by
  unfold strip_colours_has_el strip_colours_has
  rw [if_pos (show 0 ≤ (i : Int) ∧ (i : Int) < (l.length : Int) by omega), rdD_get hi]
theorem put_el_eq (l : List A16_Int) {i : Nat} (hi : i < l.length) (x : Int) {c : A16_Int} (h : strip_colours_put l[i] x = some c) : strip_colours_put_el l (i : Int) x = some (l.set i c) := by
  unfold strip_colours_put at h
  unfold strip_colours_put_el
  rw [if_pos (show 0 ≤ (i : Int) ∧ (i : Int) < (l.length : Int) by omega), rdD_get hi, Int.toNat_natCast]
  split at h
  · rename_i h1
    split at h
    · rename_i h2
      injection h with h
      rw [if_pos h1, if_pos h2, h]
    · cases h
  · cases h
def leadR (s : List Tile) (to : Int) : Nat → Int → Bool
  | 0, y => decide (y = to)
  | k + 1, y => s.any fun t => decide (t.W = y) && leadR s to k t.E
def colB4 (s : List Tile) : Prop := ∀ t ∈ s, (0 ≤ t.N ∧ t.N < 1000) ∧ (0 ≤ t.E ∧ t.E < 1000) ∧ (0 ≤ t.S ∧ t.S < 1000) ∧ (0 ≤ t.W ∧ t.W < 1000)
structure CanI (s : List Tile) (to : Int) (n K : Nat) (l : List A16_Int) : Prop where
  len : l.length = n + 1
  ok : ∀ (i : Nat) (h : i < l.length), okC l[i]
  lo : ∀ (i : Nat) (h : i < l.length), i < K → ∀ y : Nat, y < 1000 → hasC l[i] y = leadR s to i (y : Int)
  hi : ∀ (i : Nat) (h : i < l.length), K < i → ∀ y : Nat, y < 1000 → hasC l[i] y = false
theorem path_l1 {s : List Tile} (hs : colB4 s) (hls : s.length ≤ 1000) {to : Int} {n K : Nat} (hK : 1 ≤ K ∧ K ≤ n) (hn : n ≤ 40000) : ∀ (d x k : Nat) (l : List A16_Int), x + d = s.length → d < k → CanI s to n K l →
    (∀ y : Nat, y < 1000 → ∀ h : K < l.length, hasC l[K] y = (s.take x).any fun t => decide (t.W = (y : Int)) && leadR s to (K - 1) t.E) → ∃ l', strip_Path.l1 k l x s K = some l' ∧ CanI s to n (K + 1) l' ∧ ∀ (h : K + 1 < l'.length) (y : Nat), y < 1000 → hasC l'[K + 1] y = false
  | 0, x, k, l, e, hk, h, hx => by
    obtain ⟨k, rfl⟩ : ∃ m, k = m + 1 := ⟨k - 1, by omega⟩
    refine ⟨l, by rw [strip_Path.l1, if_neg (by simp; omega)], ⟨h.len, h.ok, fun i hi hiK y hy => ?_, fun i hi hiK => h.hi i hi (by omega)⟩, fun hh y hy => h.hi (K + 1) hh (by omega) y hy⟩
    rcases Nat.lt_or_ge i K with h1 | h1
    · exact h.lo i hi h1 y hy
    · have : i = K := by omega
      subst this
      rw [hx y hy hi, List.take_of_length_le (by omega)]
      obtain ⟨m, rfl⟩ : ∃ m, i = m + 1 := ⟨i - 1, by omega⟩
      rfl
  | d + 1, x, k, l, e, hk, h, hx => by
    obtain ⟨k, rfl⟩ : ∃ m, k = m + 1 := ⟨k - 1, by omega⟩
    have hlt : x < s.length := by omega
    have hlen := h.len
    have hwi : w64 ((x : Int) + 1) = ((x + 1 : Nat) : Int) := by rw [w64_id (by omega) (by omega)]; rfl
    have hwk : w64 ((K : Int) - 1) = ((K - 1 : Nat) : Int) := by rw [w64_id (by omega) (by omega)]; omega
    have hk1 : K - 1 < l.length := by omega
    have hkl : K < l.length := by omega
    obtain ⟨-, ⟨hE0, hE1⟩, -, ⟨hW0, hW1⟩⟩ := hs s[x] (List.getElem_mem hlt)
    obtain ⟨eE, heE⟩ : ∃ m : Nat, s[x].E = m := ⟨s[x].E.toNat, by omega⟩
    obtain ⟨wW, hwW⟩ : ∃ m : Nat, s[x].W = m := ⟨s[x].W.toNat, by omega⟩
    have hhas : strip_colours_has_el l ((K - 1 : Nat) : Int) s[x].E = some (leadR s to (K - 1) s[x].E) := by
      rw [has_el_eq l hk1, heE, has_eq (h.ok _ hk1) (by omega), h.lo _ hk1 (by omega) eE (by omega)]
    have htake : ∀ (f : Tile → Bool), (s.take (x + 1)).any f = ((s.take x).any f || f s[x]) := fun f => by
      rw [List.take_succ_eq_append_getElem hlt, List.any_append]; simp
    rw [strip_Path.l1, if_pos (by simpa using hlt), if_pos (show 0 ≤ (x : Int) ∧ (x : Int) < (s.length : Int) by omega), hwk, if_pos (show 0 ≤ ((K - 1 : Nat) : Int) ∧ ((K - 1 : Nat) : Int) < (l.length : Int) by omega), rdD_get hlt, hhas, Option.bind_some, hwi]
    cases hb : leadR s to (K - 1) s[x].E
    · rw [if_neg (by simp), Option.bind_some]
      exact path_l1 hs hls hK hn d (x + 1) k l (by omega) (by omega) h fun y hy hh => by rw [htake, hx y hy hh, hb]; simp
    · obtain ⟨c, hc1, hc2, hc3⟩ := put_eq (h.ok K hkl) (x := wW) (by omega)
      rw [if_pos rfl, if_pos (show 0 ≤ (K : Int) ∧ (K : Int) < (l.length : Int) by omega), hwW, put_el_eq l hkl _ hc1, Option.bind_some, Option.bind_some]
      refine path_l1 hs hls hK hn d (x + 1) k _ (by omega) (by omega) ⟨by simp [hlen], fun i hi => ?_, fun i hi hiK y hy => ?_, fun i hi hiK y hy => ?_⟩ fun y hy hh => ?_
      · rw [List.getElem_set]; split
        · exact hc2
        · exact h.ok i _
      · rw [List.getElem_set_ne (by omega)]; exact h.lo i _ hiK y hy
      · rw [List.getElem_set_ne (by omega)]; exact h.hi i _ hiK y hy
      · rw [List.getElem_set_self, hc3 y hy, htake, hx y hy hkl, hb, hwW]
        congr 1
        rw [Bool.and_true, Bool.eq_iff_iff]; simp; omega
theorem path_l0 {s : List Tile} (hs : colB4 s) (hls : s.length ≤ 1000) {to : Int} {n : Nat} (hn : n ≤ 40000) : ∀ (d K k : Nat) (l : List A16_Int), K + d = n + 1 → 1 ≤ K → d + 1001 < k → CanI s to n K l → (∀ (h : K < l.length) (y : Nat), y < 1000 → hasC l[K] y = false) → ∃ l', strip_Path.l0 k l K s n = some l' ∧ CanI s to n (n + 1) l'
  | 0, K, k, l, e, h1, hk, h, hz => by
    obtain ⟨k, rfl⟩ : ∃ m, k = m + 1 := ⟨k - 1, by omega⟩
    refine ⟨l, by rw [strip_Path.l0, if_neg (by simp; omega)], ?_⟩
    rwa [show K = n + 1 by omega] at h
  | d + 1, K, k, l, e, h1, hk, h, hz => by
    obtain ⟨k, rfl⟩ : ∃ m, k = m + 1 := ⟨k - 1, by omega⟩
    have hlen := h.len
    have hwi : w64 ((K : Int) + 1) = ((K + 1 : Nat) : Int) := by rw [w64_id (by omega) (by omega)]; rfl
    obtain ⟨l', e1, h', hz'⟩ := path_l1 hs hls (K := K) ⟨h1, by omega⟩ hn s.length 0 k l (by omega) (by omega) h (fun y hy hh => by rw [hz hh y hy]; simp)
    have e1 : strip_Path.l1 k l 0 s K = some l' := e1
    rw [strip_Path.l0, if_pos (by simp; omega), e1, Option.bind_some, hwi]
    exact path_l0 hs hls hn d (K + 1) k l' (by omega) (by omega) (by omega) h' hz'
def walkC (s : List Tile) (to : Int) : Nat → Int → List Int
  | 0, _ => []
  | m + 1, at_ => match s.findIdx? fun t => decide (t.W = at_) && leadR s to m t.E with
    | none => walkC s to m at_
    | some i => (i : Int) :: walkC s to m (rdD s (i : Int) z_Tile).E
theorem idx_none {α : Type} {p : α → Bool} {l : List α} : l.findIdx? p = none ↔ l.any p = false := by
  rw [List.findIdx?_eq_none_iff, List.any_eq_false]
  simp
theorem path_l3 {s : List Tile} (hs : colB4 s) (hls : s.length ≤ 1000) {to : Int} {n : Nat} {l : List A16_Int} (h : CanI s to n (n + 1) l) (cells : List Int) (hc : cells.length ≤ 100000) (at_ : Int) {m : Nat} (hm : m ≤ n) (hn : n ≤ 40000) : ∀ (d x k : Nat), x + d = s.length → d < k →
    strip_Path.l3 k x s l cells at_ m = some (match (s.drop x).findIdx? (fun t => decide (t.W = at_) && leadR s to m t.E) with
      | none => (cells, at_)
      | some i => (cells ++ [((x + i : Nat) : Int)], (rdD s ((x + i : Nat) : Int) z_Tile).E))
  | 0, x, k, e, hk => by
    obtain ⟨k, rfl⟩ : ∃ m, k = m + 1 := ⟨k - 1, by omega⟩
    rw [strip_Path.l3, if_neg (by simp; omega), List.drop_of_length_le (by omega)]; rfl
  | d + 1, x, k, e, hk => by
    obtain ⟨k, rfl⟩ : ∃ m, k = m + 1 := ⟨k - 1, by omega⟩
    have hlt : x < s.length := by omega
    have hlen := h.len
    have hwi : w64 ((x : Int) + 1) = ((x + 1 : Nat) : Int) := by rw [w64_id (by omega) (by omega)]; rfl
    obtain ⟨-, ⟨hE0, hE1⟩, -, -⟩ := hs s[x] (List.getElem_mem hlt)
    obtain ⟨eE, heE⟩ : ∃ m : Nat, s[x].E = m := ⟨s[x].E.toNat, by omega⟩
    have hml : m < l.length := by omega
    have hhas : strip_colours_has_el l (m : Int) s[x].E = some (leadR s to m s[x].E) := by
      rw [has_el_eq l hml, heE, has_eq (h.ok _ hml) (by omega), h.lo _ hml (by omega) eE (by omega)]
    rw [strip_Path.l3, if_pos (by simpa using hlt), if_pos (show 0 ≤ (x : Int) ∧ (x : Int) < (s.length : Int) by omega), if_pos (show 0 ≤ (m : Int) ∧ (m : Int) < (l.length : Int) by omega), rdD_get hlt, hhas, Option.bind_some, hwi, List.drop_eq_getElem_cons hlt, List.findIdx?_cons]
    have e1 : (if (s[x].W == at_) = true then some (leadR s to m s[x].E) else some false) = some (decide (s[x].W = at_) && leadR s to m s[x].E) := by
      by_cases hw : s[x].W = at_
      · rw [if_pos (by simpa using hw), decide_eq_true hw]; rfl
      · rw [if_neg (by simpa using hw), decide_eq_false hw]; rfl
    rw [e1, Option.bind_some]
    cases hb : decide (s[x].W = at_) && leadR s to m s[x].E
    · rw [if_neg (by simp), path_l3 hs hls h cells hc at_ hm hn d (x + 1) k (by omega) (by omega)]
      simp only [Bool.false_eq_true, if_false]
      cases hf : (s.drop (x + 1)).findIdx? (fun t => decide (t.W = at_) && leadR s to m t.E) with
      | none => simp
      | some i => simp [Nat.add_assoc, Nat.add_comm 1 i]
    · rw [if_pos rfl, if_pos (by simp; omega)]
      simp [rdD_get hlt]
theorem path_l2 {s : List Tile} (hs : colB4 s) (hls : s.length ≤ 1000) {to : Int} {n : Nat} {l : List A16_Int} (h : CanI s to n (n + 1) l) (hn : n ≤ 40000) : ∀ (m k : Nat) (cells : List Int) (at_ : Int), m ≤ n + 1 → m + 1001 < k → cells.length + m ≤ 100000 →
    strip_Path.l2 k cells at_ ((m : Int) - 1) s l = some (cells ++ walkC s to m at_)
  | 0, k, cells, at_, hm, hk, hc => by
    obtain ⟨k, rfl⟩ : ∃ m, k = m + 1 := ⟨k - 1, by omega⟩
    rw [strip_Path.l2, if_neg (by simp)]; simp [walkC]
  | m + 1, k, cells, at_, hm, hk, hc => by
    obtain ⟨k, rfl⟩ : ∃ m, k = m + 1 := ⟨k - 1, by omega⟩
    have e0 : ((m + 1 : Nat) : Int) - 1 = (m : Int) := by omega
    have hwi : w64 ((m : Int) - 1) = (m : Int) - 1 := w64_id (by omega) (by omega)
    have l3 := path_l3 hs hls h cells (by omega) at_ (m := m) (by omega) hn s.length 0 k (by omega) (by omega)
    have l3 : strip_Path.l3 k 0 s l cells at_ m = _ := l3
    rw [e0, strip_Path.l2, if_pos (by simp), l3, Option.bind_some, hwi, List.drop_zero, walkC]
    cases hf : s.findIdx? (fun t => decide (t.W = at_) && leadR s to m t.E) with
    | none => exact path_l2 hs hls h hn m k cells at_ (by omega) (by omega) (by omega)
    | some i =>
      simp only [Nat.zero_add]
      rw [path_l2 hs hls h hn m k _ _ (by omega) (by omega) (by simp; omega)]
      simp
end Gp
set_option linter.unusedVariables false
set_option linter.unusedSimpArgs false
namespace Gp
open Gw Gq
theorem leadR_rng {s : List Tile} (hs : colB4 s) {to : Int} : ∀ {k : Nat} {y : Int}, leadR s to (k + 1) y = true → (0 ≤ y ∧ y < 1000) ∧ (0 ≤ to ∧ to < 1000)
  | 0, y, h => by
    unfold leadR at h
    rw [List.any_eq_true] at h
    obtain ⟨t, ht, h2⟩ := h
    rw [Bool.and_eq_true] at h2
    obtain ⟨-, h5, -, h6⟩ := hs t ht
    have h7 := of_decide_eq_true h2.1
    have h8 := of_decide_eq_true (show decide (t.E = to) = true from h2.2)
    omega
  | k + 1, y, h => by
    unfold leadR at h
    rw [List.any_eq_true] at h
    obtain ⟨t, ht, h2⟩ := h
    rw [Bool.and_eq_true] at h2
    obtain ⟨-, -, -, h6⟩ := hs t ht
    have h7 := of_decide_eq_true h2.1
    have h8 := (leadR_rng hs h2.2).2
    omega
theorem validT_iff4 (s : List Tile) : validT s = true ↔ s.length ≤ 1000 ∧ s.Nodup ∧ ∀ t ∈ s, colB t = true := by
  unfold validT
  simp only [Bool.and_eq_true, decide_eq_true_eq, List.all_eq_true, List.mem_range]
  have hg : ∀ i (h : i < s.length), s.getD i z_Tile = s[i] := fun i h => by simp [List.getElem?_eq_getElem h]
  refine and_congr_right fun _ => ⟨fun h => ⟨?_, fun t ht => ?_⟩, fun h i hi => ?_⟩
  · rw [List.Nodup, List.pairwise_iff_getElem]
    intro i j hi hj hij he
    have := h j hj
    unfold newB at this
    rw [hg j hj, Bool.and_eq_true, Bool.not_eq_true', decide_eq_false_iff_not] at this
    exact this.1 (by rw [← he]; exact List.mem_take_iff_getElem.2 ⟨i, by omega, rfl⟩)
  · obtain ⟨i, hi, rfl⟩ := List.getElem_of_mem ht
    have := h i hi
    unfold newB at this
    rw [hg i hi, Bool.and_eq_true] at this
    exact this.2
  · unfold newB
    rw [hg i hi, h.2 _ (List.getElem_mem hi), Bool.and_true, Bool.not_eq_true', decide_eq_false_iff_not]
    intro hm
    obtain ⟨j, hj, he⟩ := List.mem_take_iff_getElem.1 hm
    have := h.1
    rw [List.Nodup, List.pairwise_iff_getElem] at this
    exact this j i (by omega) hi (by omega) he
theorem colB4_of {s : List Tile} (hv : validT s = true) : colB4 s := by
  have := ((validT_iff4 s).1 hv).2.2
  intro t ht
  have := this t ht
  unfold colB inCol at this
  simp only [Bool.and_eq_true, decide_eq_true_eq] at this
  omega
theorem path_eq {s : List Tile} (hv : validT s = true) (from_ to : Int) {n : Nat} (hn : 1 ≤ n ∧ n ≤ 40000) {k : Nat} (hk : 50000 < k) : strip_Path k s from_ to n = some (if leadR s to n from_ = true then (walkC s to n from_, 0) else ([], 6)) := by
  have hl := valid_len hv
  have hs := colB4_of hv
  unfold strip_Path
  rw [tile_valid s (by omega) (by omega), Option.bind_some, hv, if_neg (by decide), if_neg (by simp; omega)]
  by_cases hr : (0 ≤ from_ ∧ from_ < 1000) ∧ (0 ≤ to ∧ to < 1000)
  rotate_left
  · have hf : leadR s to n from_ = false := by
      cases hb : leadR s to n from_
      · rfl
      · obtain ⟨m, rfl⟩ : ∃ m, n = m + 1 := ⟨n - 1, by omega⟩
        exact absurd (leadR_rng hs hb) hr
    rw [if_pos (by unfold minI maxI; simp; split <;> split <;> omega), hf, if_neg (by simp)]
  obtain ⟨f, rfl⟩ : ∃ f : Nat, from_ = f := ⟨from_.toNat, by omega⟩
  obtain ⟨t, rfl⟩ : ∃ t : Nat, to = t := ⟨to.toNat, by omega⟩
  have hwn : w64 ((n : Int) + 1) = ((n + 1 : Nat) : Int) := by rw [w64_id (by omega) (by omega)]; rfl
  have hwm : w64 ((n : Int) - 1) = (n : Int) - 1 := w64_id (by omega) (by omega)
  have hz0 : ∀ (i : Nat) (h : i < (List.replicate (n + 1) z_A16_Int).length), (List.replicate (n + 1) z_A16_Int)[i] = zC := fun i h => by rw [List.getElem_replicate]; rfl
  have h0l : 0 < (List.replicate (n + 1) z_A16_Int).length := by simp
  obtain ⟨c, hc1, hc2, hc3⟩ := put_eq okC_z (x := t) (by omega)
  have hput : strip_colours_put_el (List.replicate (n + 1) z_A16_Int) (0 : Int) (t : Int) = some ((List.replicate (n + 1) z_A16_Int).set 0 c) := put_el_eq _ h0l _ (by rw [hz0 0 h0l]; exact hc1)
  have hI : CanI s t n 1 ((List.replicate (n + 1) z_A16_Int).set 0 c) := by
    refine ⟨by simp, fun i hi => ?_, fun i hi hi1 y hy => ?_, fun i hi hi1 y hy => ?_⟩
    · rw [List.getElem_set]; split
      · exact hc2
      · rw [hz0 i _]; exact okC_z
    · have : i = 0 := by omega
      subst this
      rw [List.getElem_set_self, hc3 y hy, hasC_z hy, Bool.false_or]
      unfold leadR
      rw [Bool.eq_iff_iff]; simp; omega
    · rw [List.getElem_set_ne (by omega), hz0 i _, hasC_z hy]
  obtain ⟨l, e1, hL⟩ := path_l0 hs hl (n := n) (by omega) n 1 k _ (by omega) (by omega) (by omega) hI (fun h y hy => by rw [List.getElem_set_ne (by omega), hz0 1 _, hasC_z hy])
  have e1 : strip_Path.l0 k ((List.replicate (n + 1) z_A16_Int).set 0 c) 1 s n = some l := e1
  have hlen := hL.len
  have hhas : strip_colours_has_el l (n : Int) (f : Int) = some (leadR s t n f) := by
    rw [has_el_eq l (by omega), has_eq (hL.ok _ (by omega)) (by omega), hL.lo n (by omega) (by omega) f (by omega)]
  rw [if_neg (by unfold minI maxI; simp; split <;> split <;> omega), hwn, if_pos (by omega), Int.toNat_natCast, if_pos (show 0 ≤ (0 : Int) ∧ (0 : Int) < ((List.replicate (n + 1) z_A16_Int).length : Int) by rw [List.length_replicate]; omega), hput, Option.bind_some, e1, Option.bind_some, if_pos (show 0 ≤ (n : Int) ∧ (n : Int) < (l.length : Int) by omega), hhas, Option.bind_some, hwm]
  cases hb : leadR s t n f
  · rw [if_pos (by decide), if_neg (by simp)]
  · rw [if_neg (by decide), if_pos rfl, path_l2 hs hl hL (by omega) n k [] f (by omega) (by omega) (by simp; omega)]; rfl
end Gp
set_option linter.unusedVariables false
set_option linter.unusedSimpArgs false
namespace Gp
open Gw Gq
def rowM (s : List Tile) (to : Int) (n K : Nat) : List Bool := s.map fun t => leadR s to (n - 1 - K) t.E
theorem set_id {α : Type} (l : List α) {i : Nat} (h : i < l.length) {v : α} (hv : l[i] = v) : l.set i v = l := by
  subst hv; exact List.set_getElem_self h
theorem rp_l2 {s : List Tile} (hls : s.length ≤ 1000) {to : Int} {n K i : Nat} (hK : K + 1 < n) (hn : n ≤ 40000) (hi : i < s.length) : ∀ (d j k : Nat) (M : List (List Bool)) (row : List Bool), j + d = s.length → d < k → (hM : M.length = n) → M[K] = row → (hr : row.length = s.length) → M[K + 1] = rowM s to n (K + 1) →
    ref04_Path.l2 k M j s n K i = some (M.set K (row.set i (row[i] || (s.drop j).any fun t => decide (t.W = s[i].E) && leadR s to (n - 1 - (K + 1)) t.E)))
  | 0, j, k, M, row, e, hk, hM, hrow, hr, hnx => by
    obtain ⟨k, rfl⟩ : ∃ m, k = m + 1 := ⟨k - 1, by omega⟩
    rw [ref04_Path.l2, if_neg (by simp; omega), Option.bind_some, if_neg (by simp), List.drop_of_length_le (by omega), List.any_nil, Bool.or_false, set_id row (by omega) rfl, set_id M (by omega) hrow]
  | d + 1, j, k, M, row, e, hk, hM, hrow, hr, hnx => by
    obtain ⟨k, rfl⟩ : ∃ m, k = m + 1 := ⟨k - 1, by omega⟩
    have hlt : j < s.length := by omega
    have hwn : w64 ((n : Int) - 1) = ((n - 1 : Nat) : Int) := by rw [w64_id (by omega) (by omega)]; omega
    have hwj : w64 ((j : Int) + 1) = ((j + 1 : Nat) : Int) := by rw [w64_id (by omega) (by omega)]; rfl
    have hwK : w64 ((K : Int) + 1) = ((K + 1 : Nat) : Int) := by rw [w64_id (by omega) (by omega)]; rfl
    have hMK : rdD M (K : Int) [] = row := by rw [rdD_get (by omega), hrow]
    have hMK1 : rdD M ((K + 1 : Nat) : Int) [] = rowM s to n (K + 1) := by rw [rdD_get (by omega), hnx]
    have hj : rdD (rowM s to n (K + 1)) (j : Int) false = leadR s to (n - 1 - (K + 1)) s[j].E := by
      rw [rdD_get (by simp [rowM]; omega)]; simp [rowM]
    have hri : rdD row (i : Int) false = row[i] := rdD_get (by omega) _
    rw [ref04_Path.l2, if_pos (by rw [hwn]; simp; omega), hMK, if_pos (show 0 ≤ (K : Int) ∧ (K : Int) < (M.length : Int) by omega), if_pos (show 0 ≤ (i : Int) ∧ (i : Int) < (row.length : Int) by omega), hri, Option.bind_some, hwK, hMK1, hj, hwj, List.drop_eq_getElem_cons hlt, List.any_cons]
    cases hb : row[i]
    rotate_left
    · rw [if_neg (by simp), Bool.true_or, ← hb, set_id row (by omega) rfl, set_id M (by omega) hrow]
    rw [if_pos (by simp), Bool.false_or]
    have hlr : (rowM s to n (K + 1)).length = s.length := by simp [rowM]
    have next : ∀ v : Bool, ref04_Path.l2 k (M.set K (row.set i v)) ((j + 1 : Nat) : Int) s n K i = some (M.set K (row.set i (v || (s.drop (j + 1)).any fun t => decide (t.W = s[i].E) && leadR s to (n - 1 - (K + 1)) t.E))) := fun v => by
      have := rp_l2 hls (to := to) hK hn hi d (j + 1) k (M.set K (row.set i v)) (row.set i v) (by omega) (by omega) (by simpa using hM) (by simp) (by simpa using hr) (by rw [List.getElem_set_ne (by omega)]; exact hnx)
      rw [this]; simp
    cases hv : leadR s to (n - 1 - (K + 1)) s[j].E
    · rw [if_neg (by simp), if_pos (show 0 ≤ (K : Int) ∧ (K : Int) < (M.length : Int) by omega), if_pos (show 0 ≤ ((K + 1 : Nat) : Int) ∧ ((K + 1 : Nat) : Int) < (M.length : Int) by omega), if_pos (show 0 ≤ (j : Int) ∧ (j : Int) < ((rowM s to n (K + 1)).length : Int) by omega), if_pos (show 0 ≤ (i : Int) ∧ (i : Int) < (row.length : Int) by omega), Option.bind_some, Int.toNat_natCast, Int.toNat_natCast, next]
      simp
    · rw [if_pos rfl, if_pos (show 0 ≤ (K : Int) ∧ (K : Int) < (M.length : Int) by omega), if_pos (show 0 ≤ ((K + 1 : Nat) : Int) ∧ ((K + 1 : Nat) : Int) < (M.length : Int) by omega), if_pos (show 0 ≤ (j : Int) ∧ (j : Int) < ((rowM s to n (K + 1)).length : Int) by omega), if_pos (show 0 ≤ (i : Int) ∧ (i : Int) < (s.length : Int) by omega), if_pos (show 0 ≤ (j : Int) ∧ (j : Int) < (s.length : Int) by omega), if_pos (show 0 ≤ (i : Int) ∧ (i : Int) < (row.length : Int) by omega), Option.bind_some, Int.toNat_natCast, Int.toNat_natCast, rdD_get hi, rdD_get hlt, next]
      congr 3
      rw [Bool.and_true]
      congr 1
      rw [Bool.eq_iff_iff]; simp only [beq_iff_eq, decide_eq_true_eq]; exact eq_comm
theorem rp_l1 {s : List Tile} (hls : s.length ≤ 1000) {to : Int} {n K : Nat} (hK : K < n) (hn : n ≤ 40000) : ∀ (d x k : Nat) (M : List (List Bool)) (row : List Bool), x + d = s.length → d + 1005 < k → (hM : M.length = n) → M[K] = row → (hr : row.length = s.length) → (∀ (i : Nat) (h : i < row.length) (h2 : i < s.length), i < x → row[i] = leadR s to (n - 1 - K) s[i].E) → (∀ h : K + 1 < n, M[K + 1] = rowM s to n (K + 1)) →
    ref04_Path.l1 k M x s to n K = some (M.set K (rowM s to n K))
  | 0, x, k, M, row, e, hk, hM, hrow, hr, hx, hnx => by
    obtain ⟨k, rfl⟩ : ∃ m, k = m + 1 := ⟨k - 1, by omega⟩
    have : row = rowM s to n K := by
      apply List.ext_getElem (by simp [rowM, hr])
      intro i h1 h2
      rw [hx i h1 (by omega) (by omega)]; simp [rowM]
    rw [ref04_Path.l1, if_neg (by simp; omega), ← this, set_id M (by omega) hrow]
  | d + 1, x, k, M, row, e, hk, hM, hrow, hr, hx, hnx => by
    obtain ⟨k, rfl⟩ : ∃ m, k = m + 1 := ⟨k - 1, by omega⟩
    have hlt : x < s.length := by omega
    have hwn : w64 ((n : Int) - 1) = ((n - 1 : Nat) : Int) := by rw [w64_id (by omega) (by omega)]; omega
    have hwx : w64 ((x : Int) + 1) = ((x + 1 : Nat) : Int) := by rw [w64_id (by omega) (by omega)]; rfl
    have hMK : rdD M (K : Int) [] = row := by rw [rdD_get (by omega), hrow]
    have next : ref04_Path.l1 k (M.set K (row.set x (leadR s to (n - 1 - K) s[x].E))) ((x + 1 : Nat) : Int) s to n K = some (M.set K (rowM s to n K)) := by
      have := rp_l1 hls (to := to) hK hn d (x + 1) k (M.set K (row.set x (leadR s to (n - 1 - K) s[x].E))) (row.set x (leadR s to (n - 1 - K) s[x].E)) (by omega) (by omega) (by simpa using hM) (by simp) (by simpa using hr) (fun i h h2 h3 => by
        rw [List.getElem_set]
        split
        · rename_i e2; subst e2; rfl
        · rename_i e2; exact hx i (by simpa using h) h2 (by omega)) (fun h => by rw [List.getElem_set_ne (by omega)]; exact hnx h)
      rw [this]; simp
    rw [ref04_Path.l1, if_pos (by simpa using hlt), hwn, hMK, if_pos (show 0 ≤ (K : Int) ∧ (K : Int) < (M.length : Int) by omega), if_pos (show 0 ≤ (x : Int) ∧ (x : Int) < (s.length : Int) by omega), if_pos (show 0 ≤ (x : Int) ∧ (x : Int) < (row.length : Int) by omega), if_pos (show 0 ≤ (K : Int) ∧ (K : Int) < (M.length : Int) by omega), if_pos (show 0 ≤ (x : Int) ∧ (x : Int) < (row.length : Int) by omega), Int.toNat_natCast, Int.toNat_natCast, rdD_get hlt, hwx]
    by_cases hl : K = n - 1
    · rw [if_pos (by simp; omega), Option.bind_some]
      have l2 : ref04_Path.l2 k (M.set K (row.set x (s[x].E == to))) 0 s n K x = some (M.set K (row.set x (s[x].E == to))) := by
        obtain ⟨k, rfl⟩ : ∃ m, k = m + 1 := ⟨k - 1, by omega⟩
        rw [ref04_Path.l2, if_neg (by rw [hwn]; simp; omega), Option.bind_some, if_neg (by simp)]
      rw [l2, Option.bind_some]
      have e0 : leadR s to (n - 1 - K) s[x].E = (s[x].E == to) := by
        rw [show n - 1 - K = 0 by omega]; unfold leadR; rw [Bool.eq_iff_iff]; simp
      rw [e0] at next
      exact next
    · have hK1 : K + 1 < n := by omega
      rw [if_neg (by simp; omega), Option.bind_some]
      have l2 := rp_l2 hls (to := to) hK1 hn hlt s.length 0 k (M.set K (row.set x false)) (row.set x false) (by omega) (by omega) (by simpa using hM) (by simp) (by simpa using hr) (by rw [List.getElem_set_ne (by omega)]; exact hnx hK1)
      have l2 : ref04_Path.l2 k (M.set K (row.set x false)) 0 s n K x = _ := l2
      have e0 : leadR s to (n - 1 - K) s[x].E = s.any fun t => decide (t.W = s[x].E) && leadR s to (n - 1 - (K + 1)) t.E := by
        rw [show n - 1 - K = (n - 1 - (K + 1)) + 1 by omega]; rfl
      rw [l2, Option.bind_some, List.getElem_set_self, Bool.false_or, List.drop_zero, ← e0]
      simp only [List.set_set]
      exact next
end Gp
set_option linter.unusedVariables false
set_option linter.unusedSimpArgs false
namespace Gp
open Gw Gq
theorem rp_l0 {s : List Tile} (hls : s.length ≤ 1000) {to : Int} {n : Nat} (hn : n ≤ 40000) : ∀ (m k : Nat) (M : List (List Bool)), m ≤ n → m + 3005 < k → (hM : M.length = n) → (∀ (K : Nat) (h : K < n), m ≤ K → M[K] = rowM s to n K) →
    ∃ M', ref04_Path.l0 k M ((m : Int) - 1) s to n = some M' ∧ ∃ hM' : M'.length = n, ∀ (K : Nat) (h : K < n), M'[K] = rowM s to n K
  | 0, k, M, hm, hk, hM, hrow => by
    obtain ⟨k, rfl⟩ : ∃ m, k = m + 1 := ⟨k - 1, by omega⟩
    exact ⟨M, by rw [ref04_Path.l0, if_neg (by simp)], hM, fun K h => hrow K h (by omega)⟩
  | m + 1, k, M, hm, hk, hM, hrow => by
    obtain ⟨k, rfl⟩ : ∃ m, k = m + 1 := ⟨k - 1, by omega⟩
    have e0 : ((m + 1 : Nat) : Int) - 1 = (m : Int) := by omega
    have hwm : w64 ((m : Int) - 1) = (m : Int) - 1 := w64_id (by omega) (by omega)
    have l1 := rp_l1 hls (to := to) (n := n) (K := m) (by omega) hn s.length 0 k (M.set m (List.replicate s.length false)) (List.replicate s.length false) (by omega) (by omega) (by simpa using hM) (by simp) (by simp) (fun i h h2 h3 => by omega) (fun h => by rw [List.getElem_set_ne (by omega)]; exact hrow (m + 1) h (by omega))
    have l1 : ref04_Path.l1 k (M.set m (List.replicate s.length false)) 0 s to n m = _ := l1
    rw [e0, ref04_Path.l0, if_pos (by simp), if_pos (by omega), if_pos (show 0 ≤ (m : Int) ∧ (m : Int) < (M.length : Int) by omega), Int.toNat_natCast, Int.toNat_natCast, l1, Option.bind_some, hwm, List.set_set]
    exact rp_l0 hls hn m k _ (by omega) (by omega) (by simpa using hM) fun K h hK => by
      rw [List.getElem_set]
      split
      · rename_i e; subst e; rfl
      · exact hrow K h (by omega)
theorem rp_l4 {s : List Tile} (hls : s.length ≤ 1000) {to : Int} {n K : Nat} (hK : K < n) {M : List (List Bool)} (hM : M.length = n) (hrow : M[K] = rowM s to n K) (at_ : Int) : ∀ (d x k : Nat), x + d = s.length → d + 1 < k →
    ref04_Path.l4 k (-1) x s M at_ K = some (match (s.drop x).findIdx? (fun t => decide (t.W = at_) && leadR s to (n - 1 - K) t.E) with
      | none => -1
      | some i => ((x + i : Nat) : Int))
  | 0, x, k, e, hk => by
    obtain ⟨k, rfl⟩ : ∃ m, k = m + 1 := ⟨k - 1, by omega⟩
    rw [ref04_Path.l4, if_neg (by simp; omega), List.drop_of_length_le (by omega)]; rfl
  | d + 1, x, k, e, hk => by
    obtain ⟨k, rfl⟩ : ∃ m, k = m + 2 := ⟨k - 2, by omega⟩
    have hlt : x < s.length := by omega
    have hwx : w64 ((x : Int) + 1) = ((x + 1 : Nat) : Int) := by rw [w64_id (by omega) (by omega)]; rfl
    have hMK : rdD M (K : Int) [] = rowM s to n K := by rw [rdD_get (by omega), hrow]
    have hlr : (rowM s to n K).length = s.length := by simp [rowM]
    have hj : rdD (rowM s to n K) (x : Int) false = leadR s to (n - 1 - K) s[x].E := by
      rw [rdD_get (by omega)]; simp [rowM]
    rw [ref04_Path.l4, if_pos (by simp; omega), hMK, if_pos (show 0 ≤ (K : Int) ∧ (K : Int) < (M.length : Int) by omega), if_pos (show 0 ≤ (x : Int) ∧ (x : Int) < ((rowM s to n K).length : Int) by omega), hj, if_pos (show 0 ≤ (x : Int) ∧ (x : Int) < (s.length : Int) by omega), rdD_get hlt, hwx, List.drop_eq_getElem_cons hlt, List.findIdx?_cons]
    have e1 : (if leadR s to (n - 1 - K) s[x].E = true then some (s[x].W == at_) else some false) = some (decide (s[x].W = at_) && leadR s to (n - 1 - K) s[x].E) := by
      cases leadR s to (n - 1 - K) s[x].E
      · rw [if_neg (by simp), Bool.and_false]
      · rw [if_pos rfl, Bool.and_true]; congr 1
    rw [e1, Option.bind_some]
    cases hb : decide (s[x].W = at_) && leadR s to (n - 1 - K) s[x].E
    · rw [if_neg (by simp), Option.bind_some, rp_l4 hls hK hM hrow at_ d (x + 1) (k + 1) (by omega) (by omega)]
      simp only [Bool.false_eq_true, if_false]
      cases hf : (s.drop (x + 1)).findIdx? (fun t => decide (t.W = at_) && leadR s to (n - 1 - K) t.E) with
      | none => simp
      | some i => simp [Nat.add_assoc, Nat.add_comm 1 i]
    · rw [if_pos rfl, Option.bind_some, ref04_Path.l4, if_neg (by simp)]
      simp
theorem rp_l3 {s : List Tile} (hls : s.length ≤ 1000) {to : Int} {n : Nat} (hn : n ≤ 40000) {M : List (List Bool)} (hM : M.length = n) (hrow : ∀ (K : Nat) (h : K < n), M[K] = rowM s to n K) : ∀ (d K k : Nat) (at_ : Int) (cells : List Int), K + d = n → d + 1002 < k → cells.length ≤ 100000 + K → leadR s to d at_ = true →
    ref04_Path.l3 k at_ cells K s n M = some (.inr (cells ++ walkC s to d at_))
  | 0, K, k, at_, cells, e, hk, hc, h => by
    obtain ⟨k, rfl⟩ : ∃ m, k = m + 1 := ⟨k - 1, by omega⟩
    rw [ref04_Path.l3, if_neg (by simp; omega)]; simp [walkC]
  | d + 1, K, k, at_, cells, e, hk, hc, h => by
    obtain ⟨k, rfl⟩ : ∃ m, k = m + 1 := ⟨k - 1, by omega⟩
    have hwK : w64 ((K : Int) + 1) = ((K + 1 : Nat) : Int) := by rw [w64_id (by omega) (by omega)]; rfl
    have l4 := rp_l4 hls (to := to) (n := n) (K := K) (by omega) hM (hrow K (by omega)) at_ s.length 0 k (by omega) (by omega)
    have l4 : ref04_Path.l4 k (-1) 0 s M at_ K = _ := l4
    rw [List.drop_zero, show n - 1 - K = d by omega] at l4
    have hany : (s.any fun t => decide (t.W = at_) && leadR s to d t.E) = true := h
    rw [ref04_Path.l3, if_pos (by simp; omega), l4, Option.bind_some, walkC]
    cases hf : s.findIdx? (fun t => decide (t.W = at_) && leadR s to d t.E) with
    | none => rw [idx_none] at hf; rw [hf] at hany; cases hany
    | some i =>
      obtain ⟨hi, hp, _⟩ := List.findIdx?_eq_some_iff_getElem.1 hf
      rw [Bool.and_eq_true] at hp
      simp only [Nat.zero_add]
      rw [if_neg (by simp), if_pos (show 0 ≤ (i : Int) ∧ (i : Int) < (s.length : Int) by omega), if_pos (by simp; omega), hwK, rdD_get hi, rp_l3 hls hn hM hrow d (K + 1) k _ _ (by omega) (by omega) (by simp; omega) hp.2]
      simp
theorem refPath_eq {s : List Tile} (hls : s.length ≤ 1000) (from_ to : Int) {n : Nat} (hn : 1 ≤ n ∧ n ≤ 40000) {k : Nat} (hk : 50000 < k) : ref04_Path k s from_ to n = some (if leadR s to n from_ = true then (walkC s to n from_, true) else ([], false)) := by
  have hwn : w64 ((n : Int) - 1) = (n : Int) - 1 := w64_id (by omega) (by omega)
  obtain ⟨M, e1, hM, hrow⟩ := rp_l0 hls (to := to) (n := n) (by omega) n k (List.replicate n []) (by omega) (by omega) (by simp) (fun K h h2 => by omega)
  unfold ref04_Path
  rw [if_pos (by omega), hwn, Int.toNat_natCast, e1, Option.bind_some]
  cases hb : leadR s to n from_
  · obtain ⟨m, rfl⟩ : ∃ m, n = m + 1 := ⟨n - 1, by omega⟩
    obtain ⟨k, rfl⟩ : ∃ m, k = m + 1 := ⟨k - 1, by omega⟩
    have l4 := rp_l4 hls (to := to) (n := m + 1) (K := 0) (by omega) hM (hrow 0 (by omega)) from_ s.length 0 k (by omega) (by omega)
    have l4 : ref04_Path.l4 k (-1) 0 s M from_ 0 = _ := l4
    rw [List.drop_zero, show m + 1 - 1 - 0 = m by omega] at l4
    have hany : (s.any fun t => decide (t.W = from_) && leadR s to m t.E) = false := hb
    rw [(idx_none).2 hany] at l4
    rw [ref04_Path.l3, if_pos (by simp), l4, Option.bind_some, if_pos (by simp), if_neg (by simp)]; rfl
  · have l3 := rp_l3 hls (by omega) hM hrow n 0 k from_ [] (by omega) (by omega) (by simp) hb
    have l3 : ref04_Path.l3 k from_ [] 0 s n M = _ := l3
    rw [l3, Option.bind_some, if_pos rfl]; rfl
theorem walkC_len (s : List Tile) (to : Int) : ∀ (m : Nat) (a : Int), (walkC s to m a).length ≤ m
  | 0, a => by simp [walkC]
  | m + 1, a => by
    rw [walkC]
    split
    · exact Nat.le_succ_of_le (walkC_len s to m a)
    · simp; exact walkC_len s to m _
theorem path_bad {s : List Tile} (hl : s.length ≤ 9223372036854775807) (a b n : Int) {k : Nat} (hk : 3000 < k) : (validT s = false → strip_Path k s a b n = some ([], 1)) ∧ (validT s = true → ¬ (1 ≤ n ∧ n ≤ 40000) → strip_Path k s a b n = some ([], 2)) := by
  unfold strip_Path
  rw [tile_valid s (by omega) hl, Option.bind_some]
  refine ⟨fun h => ?_, fun h hn => ?_⟩
  · rw [h, if_pos (by decide)]
  · rw [h, if_neg (by decide), if_pos (by simp; omega)]
theorem law04_StripPaths_pure : ∀ (p0 : List Tile) (p1 : Int) (p2 : Int) (p3 : Int), ((∀ x ∈ p0, ok_Tile x) ∧ p0.length ≤ Go.maxLen) → (ok64 p1) → (ok64 p2) → (ok64 p3) → ∃ k, law04_StripPaths k p0 p1 p2 p3 = some true := by
  intro s a b c hs _ _ _
  have hl : s.length ≤ 9223372036854775807 := hs.2
  refine ⟨2000000, ?_⟩
  have aw : law04_awake 2000000 = some true := awake04_ok 1998700
  obtain ⟨b1, b2⟩ := path_bad hl a b c (k := 2000000) (by omega)
  unfold law04_StripPaths
  by_cases h11 : (s.length : Int) > 1100
  · rw [if_pos (decide_eq_true h11), aw]; rfl
  rw [if_neg (by simpa using h11), valid01 s (by omega) hl, Option.bind_some]
  cases hv : validT s
  · rw [if_pos (by simp), b1 hv, Option.bind_some, Option.bind_some, if_pos (by decide), if_pos (by decide), aw]; rfl
  by_cases hn : 1 ≤ c ∧ c ≤ 40000
  rotate_left
  · rw [if_pos (by simp; omega), b2 hv hn, Option.bind_some, Option.bind_some, if_neg (by decide), if_pos (by decide), aw]; rfl
  rw [if_neg (by simp; omega)]
  split
  · rw [aw]; rfl
  obtain ⟨n, rfl⟩ : ∃ n : Nat, c = n := ⟨c.toNat, by omega⟩
  have hls := valid_len hv
  rw [path_eq hv a b (by omega) (by omega), Option.bind_some, refPath_eq hls a b (by omega) (by omega), Option.bind_some]
  cases hb : leadR s b n a
  · show (if (!false) = true then ((if (((6 : Int) == 6) && (((([] : List Int).length : Int)) == 0)) = true then ((law04_awake 2000000).bind fun t => some t) else (some false)).bind fun x => some x) else _) = _
    rw [if_pos (by decide), if_pos (by decide), aw]; rfl
  · show (if (!true) = true then _ else _) = _
    rw [if_neg (by decide)]
    have hwl := walkC_len s b n a
    show ((if ((0 : Int) == 0) = true then ((ref01_Same 2000000 (walkC s b n a) (walkC s b n a)).bind fun t => some t) else (some false)).bind fun x => (if x = true then ((law04_awake 2000000).bind fun t => some t) else (some false)).bind fun x => some x) = _
    rw [if_pos (by decide), same01 _ (by omega) (by omega), Option.bind_some, Option.bind_some, if_pos rfl, aw]; rfl
end Gp
