/- The sort: what comes of it, as the library's contract tells it at this program. -/
import Derived.Test.YtdjkmioemobdbaaGreatGb
import Derived.Shelf.SlSortCmp.Whole1
import Derived.Shelf.SlSortCmp.WholeK
import Derived.Shelf.SlLaysF0
import Derived.Shelf.SlLaysF
import Derived.Laws.IdiomCopy
set_option linter.unusedVariables false
set_option linter.unusedSimpArgs false
set_option maxHeartbeats 4000000
set_option maxRecDepth 8000
namespace Gw
open Go Go.RowKit Go.Deep
/-! ### the sort: what comes of it, where the comparison is told and is an order -/
def cfI {α : Type} (cf : α → α → Option Int) (l : List α) (d : α) (i j : Nat) : Int := (cf (l.getD (i % l.length) d) (l.getD (j % l.length) d)).getD 0
def ltI {α : Type} (cf : α → α → Option Int) (l : List α) (d : α) (i j : Nat) : Bool := decide (cfI cf l d i j < 0)
def ordB {α : Type} (cf : α → α → Option Int) (l : List α) (d : α) : Bool := (List.range l.length).all fun i => (List.range l.length).all fun j => (cf (l.getD i d) (l.getD j d)).isSome && (if i = j then !ltI cf l d i j else ltI cf l d i j != ltI cf l d j i) && (List.range l.length).all fun k => !(ltI cf l d i j && ltI cf l d j k) || ltI cf l d i k
def insI (lt : Nat → Nat → Bool) (x : Nat) : List Nat → List Nat
  | [] => [x]
  | y :: r => if lt x y = true then x :: y :: r else y :: insI lt x r
def srtI (lt : Nat → Nat → Bool) : List Nat → List Nat
  | [] => []
  | x :: r => insI lt x (srtI lt r)
def sortP {α : Type} (cf : α → α → Option Int) (l : List α) (d : α) : Option (List α) := if l.isEmpty = true then none else if l.length ≤ 100000000000 then (if ordB cf l d = true then some ((srtI (ltI cf l d) (List.range l.length)).map fun i => l.getD i d) else none) else none
structure OrdN (lt : Nat → Nat → Bool) (n : Nat) : Prop where
  irr : ∀ i, i < n → lt i i = false
  tri : ∀ i j, i < n → j < n → i ≠ j → lt i j ≠ lt j i
  trans : ∀ i j k, i < n → j < n → k < n → lt i j = true → lt j k = true → lt i k = true
theorem ordB_ok {α : Type} {cf : α → α → Option Int} {l : List α} {d : α} (h : ordB cf l d = true) : OrdN (ltI cf l d) l.length ∧ ∀ i j, i < l.length → j < l.length → ∃ r, cf (l.getD i d) (l.getD j d) = some r := by
  unfold ordB at h
  simp only [List.all_eq_true, List.mem_range, Bool.and_eq_true, Bool.or_eq_true, Bool.not_eq_true'] at h
  refine ⟨⟨fun i hi => ?_, fun i j hi hj hne => ?_, fun i j k hi hj hk h1 h2 => ?_⟩, fun i j hi hj => ?_⟩
  · have := (h i hi i hi).1.2
    rw [if_pos rfl] at this
    simpa using this
  · have := (h i hi j hj).1.2
    rw [if_neg hne] at this
    simpa using this
  · rcases (h i hi j hj).2 k hk with h3 | h3
    · rw [h1, h2] at h3; cases h3
    · exact h3
  · exact Option.isSome_iff_exists.1 (h i hi j hj).1.1
theorem insI_mem (lt : Nat → Nat → Bool) (x y : Nat) : ∀ l : List Nat, y ∈ insI lt x l ↔ y = x ∨ y ∈ l
  | [] => by simp [insI]
  | z :: r => by
    rw [insI]
    split
    · simp
    · rw [List.mem_cons, insI_mem lt x y r, List.mem_cons]
      constructor
      · rintro (h | h | h)
        · exact .inr (.inl h)
        · exact .inl h
        · exact .inr (.inr h)
      · rintro (h | h | h)
        · exact .inr (.inl h)
        · exact .inl h
        · exact .inr (.inr h)
theorem srtI_mem (lt : Nat → Nat → Bool) (y : Nat) : ∀ l : List Nat, y ∈ srtI lt l ↔ y ∈ l
  | [] => Iff.rfl
  | x :: r => by rw [srtI, insI_mem, srtI_mem lt y r, List.mem_cons]
theorem insI_pw {lt : Nat → Nat → Bool} {n : Nat} (o : OrdN lt n) {x : Nat} (hx : x < n) : ∀ l : List Nat, (∀ y ∈ l, y < n ∧ y ≠ x) → l.Pairwise (fun a b => lt a b = true) → (insI lt x l).Pairwise (fun a b => lt a b = true)
  | [], _, _ => by rw [insI]; exact List.pairwise_singleton _ _
  | y :: r, h, hp => by
    rw [List.pairwise_cons] at hp
    obtain ⟨hy, hne⟩ := h y List.mem_cons_self
    rw [insI]
    split
    · rename_i hlt
      rw [List.pairwise_cons, List.pairwise_cons]
      refine ⟨fun z hz => ?_, hp⟩
      rcases List.mem_cons.1 hz with rfl | hz
      · exact hlt
      · exact o.trans x y z hx hy (h z (List.mem_cons_of_mem _ hz)).1 hlt (hp.1 z hz)
    · rename_i hlt
      rw [List.pairwise_cons]
      refine ⟨fun z hz => ?_, insI_pw o hx r (fun z hz => h z (List.mem_cons_of_mem _ hz)) hp.2⟩
      rcases (insI_mem lt x z r).1 hz with rfl | hz
      · have := o.tri y z hy hx hne
        cases h1 : lt y z
        · rw [h1] at this
          cases h2 : lt z y
          · rw [h2] at this; exact absurd rfl this
          · exact absurd h2 hlt
        · rfl
      · exact hp.1 z hz
theorem srtI_pw {lt : Nat → Nat → Bool} {n : Nat} (o : OrdN lt n) : ∀ l : List Nat, (∀ y ∈ l, y < n) → l.Nodup → (srtI lt l).Pairwise (fun a b => lt a b = true)
  | [], _, _ => List.Pairwise.nil
  | x :: r, h, hn => by
    rw [List.nodup_cons] at hn
    rw [srtI]
    refine insI_pw o (h x List.mem_cons_self) _ (fun y hy => ?_) (srtI_pw o r (fun y hy => h y (List.mem_cons_of_mem _ hy)) hn.2)
    rw [srtI_mem] at hy
    exact ⟨h y (List.mem_cons_of_mem _ hy), fun e => hn.1 (e ▸ hy)⟩
theorem pw_uniq {R : Nat → Nat → Prop} : ∀ (l m : List Nat), l.Pairwise R → m.Pairwise R → (∀ x, x ∈ l ↔ x ∈ m) → (∀ x y, x ∈ l → y ∈ l → R x y → R y x → False) → l = m
  | [], [], _, _, _, _ => rfl
  | [], y :: m, _, _, h, _ => by have := (h y).2 List.mem_cons_self; cases this
  | x :: l, [], _, _, h, _ => by have := (h x).1 List.mem_cons_self; cases this
  | x :: l, y :: m, hl, hm, h, ha => by
    rw [List.pairwise_cons] at hl hm
    have e : x = y := by
      refine Classical.byContradiction fun hne => ?_
      have h1 : x ∈ m := ((List.mem_cons.1 ((h x).1 List.mem_cons_self)).resolve_left hne)
      have h2 : y ∈ l := ((List.mem_cons.1 ((h y).2 List.mem_cons_self)).resolve_left fun e => hne e.symm)
      exact ha x y List.mem_cons_self (List.mem_cons_of_mem _ h2) (hl.1 y h2) (hm.1 x h1)
    subst e
    have hx : x ∉ l := fun hx => ha x x List.mem_cons_self List.mem_cons_self (hl.1 x hx) (hl.1 x hx)
    have hx2 : x ∉ m := fun hx => ha x x List.mem_cons_self List.mem_cons_self (hm.1 x hx) (hm.1 x hx)
    rw [pw_uniq l m hl.2 hm.2 (fun z => ⟨fun hz => ((List.mem_cons.1 ((h z).1 (List.mem_cons_of_mem _ hz))).resolve_left fun e => hx (e ▸ hz)), fun hz => ((List.mem_cons.1 ((h z).2 (List.mem_cons_of_mem _ hz))).resolve_left fun e => hx2 (e ▸ hz))⟩) (fun a b ha' hb => ha a b (List.mem_cons_of_mem _ ha') (List.mem_cons_of_mem _ hb))]
theorem sorted_is {lt : Nat → Nat → Bool} {n : Nat} (o : OrdN lt n) {d : List Nat} (hp : d.Perm (List.range n)) (hs : d.Pairwise (fun a b => lt b a = false)) : d = srtI lt (List.range n) := by
  have hm : ∀ x, x ∈ d ↔ x < n := fun x => hp.mem_iff.trans List.mem_range
  have hn : d.Nodup := hp.nodup_iff.2 List.nodup_range
  have h1 : d.Pairwise (fun a b => lt a b = true) := by
    have := List.Pairwise.and hs hn
    refine List.Pairwise.imp_of_mem (fun {a b} ha hb h => ?_) this
    have := o.tri a b ((hm a).1 ha) ((hm b).1 hb) h.2
    rw [h.1] at this
    cases hab : lt a b
    · rw [hab] at this; exact absurd rfl this
    · rfl
  refine pw_uniq d _ h1 (srtI_pw o _ (fun y hy => List.mem_range.1 hy) List.nodup_range) (fun x => by rw [srtI_mem, hm, List.mem_range]) (fun x y hx hy a b => ?_)
  have := o.trans x y x ((hm x).1 hx) ((hm y).1 hy) ((hm x).1 hx) a b
  rw [o.irr x ((hm x).1 hx)] at this
  cases this
theorem swo_of {α : Type} {cf : α → α → Option Int} {l : List α} {d : α} (h0 : 0 < l.length) (o : OrdN (ltI cf l d) l.length) : Sort.SWO (fun i j => decide (cfI cf l d i j < 0)) := by
  have hm : ∀ i j, ltI cf l d i j = ltI cf l d (i % l.length) (j % l.length) := fun i j => by
    unfold ltI cfI
    rw [Nat.mod_mod, Nat.mod_mod]
  have hl : ∀ i, i % l.length < l.length := fun i => Nat.mod_lt _ h0
  refine ⟨fun x => ?_, fun x y z h1 h2 => ?_, fun x y z h1 h2 => ?_⟩
  · show ltI cf l d x x = false
    rw [hm]; exact o.irr _ (hl x)
  · have h1 : ltI cf l d x y = true := h1
    have h2 : ltI cf l d y z = true := h2
    show ltI cf l d x z = true
    rw [hm] at h1 h2 ⊢
    exact o.trans _ _ _ (hl x) (hl y) (hl z) h1 h2
  · have h1 : ltI cf l d x y = false := h1
    have h2 : ltI cf l d y z = false := h2
    show ltI cf l d x z = false
    rw [hm] at h1 h2 ⊢
    cases h3 : ltI cf l d (x % l.length) (z % l.length)
    · rfl
    · exfalso
      by_cases e1 : x % l.length = y % l.length
      · rw [e1, h2] at h3; cases h3
      · by_cases e2 : y % l.length = z % l.length
        · rw [← e2, h1] at h3; cases h3
        · have t1 := o.tri _ _ (hl x) (hl y) e1
          have t2 := o.tri _ _ (hl y) (hl z) e2
          rw [h1] at t1
          rw [h2] at t2
          have g1 : ltI cf l d (y % l.length) (x % l.length) = true := by
            cases h : ltI cf l d (y % l.length) (x % l.length)
            · rw [h] at t1; exact absurd rfl t1
            · rfl
          have g2 : ltI cf l d (z % l.length) (y % l.length) = true := by
            cases h : ltI cf l d (z % l.length) (y % l.length)
            · rw [h] at t2; exact absurd rfl t2
            · rfl
          have g3 := o.trans _ _ _ (hl z) (hl y) (hl x) g2 g1
          have g4 := o.trans _ _ _ (hl x) (hl z) (hl x) h3 g3
          rw [o.irr _ (hl x)] at g4
          cases g4
/-! ### the sort of slices of slices, in memory -/
theorem keep_grow {w w' : World} (h : Keeps NoS w w') (hd : DR) : ∃ q os', w' = Go.Sort.grow (w.drewN q) os' := by
  refine ⟨w'.drawn - w.drawn, w'.heap.extract w.heap.size w'.heap.size, ?_⟩
  have h1 := h.os
  have h2 := h.tape
  have h3 := h.output
  have h4 := h.drawn hd
  have hh : w'.heap = w.heap ++ w'.heap.extract w.heap.size w'.heap.size := by
    apply Array.ext_getElem?
    intro k
    rw [Array.getElem?_append]
    split
    · rename_i hk; exact h.block k hk id
    · rename_i hk
      rw [Array.getElem?_extract]
      have hs := h.size
      by_cases hk2 : k < w'.heap.size
      · rw [if_pos (by omega), show w.heap.size + (k - w.heap.size) = k by omega]
      · rw [if_neg (by omega), Array.getElem?_eq_none (by omega)]
  unfold Go.Sort.grow World.drewN
  cases w; cases w'
  simp only at h1 h2 h3 h4 hh ⊢
  rw [← hh, h1, h2, h3, Nat.add_sub_cancel' h4]
theorem srt_world {β : Type} [Inhabited β] {enc : β → Value} {w : World} {g m : Nat} {dk : Array β} {os : Array Obj} {cur : Array Value} {T : TypeId} {fz : Nat × Nat} (hg : w.heap[g]? = some (.cells cur T fz)) (hn : dk.size ≤ cur.size) :
    Keeps (fun k => k = g) w (Go.Proofs.sortWorld enc w g 0 m dk os) ∧ (Go.Proofs.sortWorld enc w g 0 m dk os).heap[g]? = some (.cells (Go.Sort.putCells enc 0 dk cur) T fz) ∧ (Go.Sort.putCells enc 0 dk cur).size = cur.size ∧ (Go.Sort.putCells enc 0 dk cur).toList.take dk.size = dk.toList.map enc := by
  have hlt : g < w.heap.size := (Array.getElem?_eq_some_iff.1 hg).1
  have hsz : (w.heap.modify g (Go.Sort.onCells (Go.Sort.putCells enc 0 dk))).size = w.heap.size := Array.size_modify ..
  have hheap : (Go.Proofs.sortWorld enc w g 0 m dk os).heap = w.heap.modify g (Go.Sort.onCells (Go.Sort.putCells enc 0 dk)) ++ os := rfl
  refine ⟨⟨rfl, rfl, rfl, ?_, fun k hk hne => ?_, fun _ => Nat.le_add_right _ _⟩, ?_, ?_, ?_⟩
  · rw [hheap, Array.size_append, hsz]; omega
  · rw [hheap, Array.getElem?_append_left (by rw [hsz]; exact hk), Array.getElem?_modify, if_neg (fun e => hne e.symm)]
  · rw [hheap, Array.getElem?_append_left (by rw [hsz]; exact hlt), Array.getElem?_modify, if_pos rfl, hg]; rfl
  · unfold Go.Sort.putCells; rw [Array.size_mapIdx]
  · apply List.ext_getElem?
    intro i
    rw [List.getElem?_take, List.getElem?_map]
    by_cases hi : i < dk.size
    · rw [if_pos hi, Array.getElem?_toList, Array.getElem?_toList]
      unfold Go.Sort.putCells
      rw [Array.getElem?_mapIdx, Array.getElem?_eq_getElem (show i < cur.size by omega), Array.getElem?_eq_getElem hi]
      simp only [Option.map_some]
      rw [if_pos (by omega), Nat.sub_zero, getElem!_pos dk i hi]
    · rw [if_neg hi, Array.getElem?_toList, Array.getElem?_eq_none (by omega)]; rfl
theorem sortP_len {α : Type} {cf : α → α → Option Int} {l : List α} {d : α} {r : List α} (h : sortP cf l d = some r) : r.length = l.length := by
  unfold sortP at h
  split at h
  · cases h
  split at h
  rotate_left
  · cases h
  split at h
  rotate_left
  · cases h
  injection h with h
  have hl : ∀ (lt : Nat → Nat → Bool) (x : Nat) (m : List Nat), (insI lt x m).length = m.length + 1 := fun lt x m => by
    induction m with
    | nil => rfl
    | cons y m ih =>
      rw [insI]
      split
      · rfl
      · rw [List.length_cons, ih, List.length_cons]
  have hs : ∀ (lt : Nat → Nat → Bool) (m : List Nat), (srtI lt m).length = m.length := fun lt m => by
    induction m with
    | nil => rfl
    | cons y m ih => rw [srtI, hl, ih, List.length_cons]
  rw [← h, List.length_map, hs, List.length_range]
theorem drT : DR := trivial
/-! ### the sort of structs, in memory -/
theorem flatK_flat {α : Type} (e : Enc α) (f : Nat → α) (idx : Array Nat) : (Go.Sort.flatK (fun i => e.enc (f i)) e.sz idx).toList = (idx.toList.map f).flatMap e.enc := by
  apply List.ext_getElem?
  intro t
  by_cases ht : t < idx.size * e.sz
  · have hk : 0 < e.sz := by
      rcases Nat.eq_zero_or_pos e.sz with h | h
      · rw [h, Nat.mul_zero] at ht; omega
      · exact h
    have hq : t / e.sz < idx.size := Nat.div_lt_of_lt_mul (by rw [Nat.mul_comm]; exact ht)
    have hr : t % e.sz < e.sz := Nat.mod_lt _ hk
    have h1 : (idx.toList.map f)[t / e.sz]? = some (f idx[t / e.sz]) := by
      rw [List.getElem?_map, Array.getElem?_toList, Array.getElem?_eq_getElem hq]; rfl
    have hl : t % e.sz < (e.enc (f idx[t / e.sz])).length := by rw [e.len]; exact hr
    have h2 := flat_at e (idx.toList.map f) (t / e.sz) _ h1 (t % e.sz) _ (List.getElem?_eq_getElem hl)
    rw [show t / e.sz * e.sz + t % e.sz = t by rw [Nat.mul_comm]; exact Nat.div_add_mod t e.sz] at h2
    rw [h2, Array.getElem?_toList, Array.getElem?_eq_getElem (by rw [Go.Sort.size_flatK]; exact ht)]
    congr 1
    have h3 := Go.Sort.get_flatK (fun i => e.enc (f i)) e.sz idx t ht
    rw [getElem!_pos _ t (by rw [Go.Sort.size_flatK]; exact ht), getElem!_pos idx _ hq, getElem!_pos (e.enc (f idx[t / e.sz])) (t % e.sz) hl] at h3
    exact h3
  · have h2 : (Go.Sort.flatK (fun i => e.enc (f i)) e.sz idx).toList.length = idx.size * e.sz := by rw [Array.length_toList, Go.Sort.size_flatK]
    have h3 : ((idx.toList.map f).flatMap e.enc).length = idx.size * e.sz := by rw [flat_len, List.length_map, Array.length_toList]
    rw [List.getElem?_eq_none (by omega), List.getElem?_eq_none (by omega)]
theorem sortK_calls {α : Type} {P : Program} {ρ : Go.Shelf.Ren} (L : Go.Proofs.SlLaysF0.n6 P ρ) {T : TypeId} (e : Enc α) (g : Nat) (d0 : α) (cf : α → α → Option Int)
    (eg : ∀ args w, (callFunc g args).run P w = .ok (.enter g args) w) (aE : ∀ w, (isAgg (ρ.t 24)).run P w = .ok true w) (zE : ∀ w, (Go.sizeOf (ρ.t 24)).run P w = .ok e.sz w)
    (hc : ∀ (x y : α) (r : Int) (w : World), cf x y = some r → CallsR P g #[.agg (e.enc x).toArray, .agg (e.enc y).toArray] w (fun v w' => v = .int .i64 r ∧ Keeps NoS w w'))
    (hd : DR) (l r : List α) (A : Option Addr) (c : Nat) (w : World) (hI : IoOK w [rowO T e A c l]) (hf : sortP cf l d0 = some r) :
    CallsR P (ρ.f 6) #[.slice A l.length c, .func (.func g) #[] #[]] w (fun v w' => v = .tuple #[] ∧ St (fpL [rowO T e A c l]) w w' [] [rowO T e A c r]) := by
  unfold sortP at hf
  split at hf
  · cases hf
  rename_i hne
  split at hf
  rotate_left
  · cases hf
  rename_i hlen
  split at hf
  rotate_left
  · cases hf
  rename_i hord
  injection hf with hf
  obtain ⟨o, htold⟩ := ordB_ok hord
  have h0 : 0 < l.length := by
    cases l with
    | nil => exact absurd rfl hne
    | cons a b => exact Nat.succ_pos _
  have ok1 : w.ownsRow 0 T e.sz (.slice A l.length c) l.length (l.flatMap e.enc) := (hI.own 0).1
  rcases ok1.2 with ⟨_, h1⟩ | ⟨gb, cap, cur, hv, _, hg, hle, hcap, hcs, htk⟩
  · omega
  injection hv with hA _ hcc
  subst hA hcc
  have hlt : gb < w.heap.size := (Array.getElem?_eq_some_iff.1 hg).1
  let enc : Nat → List Value := fun i => e.enc (l.getD (i % l.length) d0)
  have hml : ∀ i, i % l.length < l.length := fun i => Nat.mod_lt _ h0
  have hdsz : (List.range l.length).toArray.size = l.length := by simp
  have hflat : (Go.Sort.flatK enc e.sz (List.range l.length).toArray).toList = l.flatMap e.enc := by
    have := flatK_flat e (fun i => l.getD (i % l.length) d0) (List.range l.length).toArray
    rw [show (List.range l.length).toArray.toList.map (fun i => l.getD (i % l.length) d0) = l by
      apply List.ext_getElem
      · simp
      · intro i h1 h2
        simp only [List.getElem_map, List.getElem_range, Nat.mod_eq_of_lt h2]
        rw [List.getD_eq_getElem?_getD, List.getElem?_eq_getElem h2]; rfl] at this
    exact this
  have hfsz : ∀ dk : Array Nat, (Go.Sort.flatK enc e.sz dk).size = dk.size * e.sz := fun dk => Go.Sort.size_flatK _ _ _
  have hcap2 : l.length * e.sz ≤ cur.size := by rw [hcs]; exact Nat.mul_le_mul_right _ hle
  have hcmp : Go.Proofs.CmpLays P g #[] enc e.sz (cfI cf l d0) gb 0 (List.range l.length).toArray.size w := by
    intro m os dk hdk x y
    obtain ⟨q, hq⟩ := htold (x % l.length) (y % l.length) (hml x) (hml y)
    have hr := hc (l.getD (x % l.length) d0) (l.getD (y % l.length) d0) q (Go.Proofs.sortWorldK enc e.sz w gb 0 m dk os) hq
    have e1 : cfI cf l d0 x y = q := by unfold cfI; rw [hq]; rfl
    rw [e1]
    refine Calls.mono hr ?_
    rintro ee w' ⟨v, rfl, rfl, hk⟩
    exact ⟨rfl, keep_grow hk hd⟩
  have hH : Go.Sort.HoldsK enc e.sz w gb 0 (List.range l.length).toArray := fun j hj => by
    have hj : j < (Go.Sort.flatK enc e.sz (List.range l.length).toArray).size := hj
    have hj2 : j < l.length * e.sz := by rw [hfsz, hdsz] at hj; exact hj
    have h3 : (cur.toList.take (l.length * e.sz))[j]? = some (Go.Sort.flatK enc e.sz (List.range l.length).toArray)[j] := by
      rw [htk, ← hflat, Array.getElem?_toList, Array.getElem?_eq_getElem hj]
    rw [List.getElem?_take, if_pos hj2, Array.getElem?_toList] at h3
    rw [getElem!_pos _ j hj, Nat.zero_add]
    refine ⟨?_, by simp [World.frozen?, hg]⟩
    show (match w.heap[gb]? with | some (.cells c _ _) => _ | _ => none) = _
    rw [hg]
    exact h3
  have hcall := Go.Proofs.AnyQ.slices_SortFunc L e.sz aE zE enc (fun x => e.len _) (fun x v hv => e.one _ v hv) (cfI cf l d0) (swo_of h0 o) g #[] gb 0 c (List.range l.length).toArray w eg hcmp hH hlt (by rw [hdsz]; omega)
  rw [hdsz] at hcall
  refine Calls.mono hcall ?_
  rintro ee w' ⟨rfl, d', nn, os, hp, hso, rfl⟩
  have hds : d'.size = l.length := by rw [hp.1, hdsz]
  have hperm : d'.toList.Perm (List.range l.length) := by
    have h3 := hp.2.2
    rw [show d'.extract 0 l.length = d' by rw [← hds]; exact Array.extract_size, show (List.range l.length).toArray.extract 0 l.length = (List.range l.length).toArray by rw [← hdsz]; simp] at h3
    simpa using h3
  have hpw : d'.toList.Pairwise (fun a b => ltI cf l d0 b a = false) := by
    rw [List.pairwise_iff_getElem]
    intro i j hi hj hij
    have hi' : i < d'.size := by simpa using hi
    have hj' : j < d'.size := by simpa using hj
    have h3 := hso i j (Nat.zero_le _) hij (by omega)
    rw [getElem!_pos d' i hi', getElem!_pos d' j hj'] at h3
    have h5 : ltI cf l d0 d'[j] d'[i] = false := h3
    simpa using h5
  have hs2 := sorted_is o hperm hpw
  have hrl : d'.toList.map (fun i => l.getD (i % l.length) d0) = r := by
    rw [← hf, ← hs2]
    refine List.map_congr_left fun i hi => ?_
    rw [Nat.mod_eq_of_lt (List.mem_range.1 (hperm.mem_iff.1 hi))]
  have hrlen : r.length = l.length := by rw [← hrl, List.length_map, Array.length_toList, hds]
  have hflat2 : (Go.Sort.flatK enc e.sz d').toList = r.flatMap e.enc := by
    have := flatK_flat e (fun i => l.getD (i % l.length) d0) d'
    rw [hrl] at this
    exact this
  obtain ⟨hK, hheap, hcz, htake⟩ := srt_world (enc := id) (m := nn) (dk := Go.Sort.flatK enc e.sz d') (os := os) hg (by rw [hfsz, hds]; exact hcap2)
  have hK : Keeps (fun k => k = gb) w (Go.Proofs.sortWorldK enc e.sz w gb 0 nn d' os) := hK
  have hheap : (Go.Proofs.sortWorldK enc e.sz w gb 0 nn d' os).heap[gb]? = _ := hheap
  rw [hflat2, List.map_id, hfsz, hds] at htake
  refine ⟨_, rfl, rfl, ?_⟩
  have okr : (rowO T e (some ⟨gb, 0, none⟩) c r).ok (Go.Proofs.sortWorldK enc e.sz w gb 0 nn d' os) := by
    show World.ownsRow _ 0 T e.sz (.slice (some ⟨gb, 0, none⟩) r.length c) r.length (r.flatMap e.enc)
    rw [hrlen]
    refine ⟨by rw [flat_len, hrlen], .inr ⟨gb, c, _, rfl, Nat.zero_le _, hheap, hle, hcap, by rw [hcz, hcs], htake⟩⟩
  refine ⟨⟨hK.os, hK.tape, hK.output, hK.size, fun k hk hn => hK.block k hk (fun e => hn ⟨0, ⟨⟨gb, 0, none⟩, rfl, e⟩⟩), hK.drawn⟩, fun i => by rw [at_nil]; exact ⟨trivial, fun _ h => h.elim⟩, fun i => ?_, fun i j hij q h1 h2 => ?_⟩
  · match i with
    | 0 => exact ⟨okr, fun q hq => ⟨.inl ⟨0, hq⟩, by obtain ⟨ad, h3, rfl⟩ := hq; injection h3 with h3; subst h3; exact Nat.lt_of_lt_of_le hlt hK.size⟩⟩
    | i + 1 => exact ⟨trivial, fun q hq => hq.elim⟩
  · match i, j with
    | 0, 0 => exact hij rfl
    | 0, j + 1 => exact (show False from h2).elim
    | i + 1, _ => exact (show False from h1).elim
theorem agg_of {P : Program} {t : TypeId} {u : TypeDesc} (h : P.underlying t = some u) (hu : (match u with | .struct _ => true | .array _ _ => true | _ => false) = true) : ∀ w, (isAgg t).run P w = .ok true w := by
  intro w
  unfold isAgg
  simp only [Sem.run_bind, run_underlying h, Result.andThen_ok]
  cases u <;> first | rfl | cases hu
theorem size_of_ {P : Program} {t : TypeId} {n : Nat} (h : (P.info? t).map (fun i => i.size) = some n) : ∀ w, (Go.sizeOf t).run P w = .ok n w := by
  intro w
  cases hi : P.info? t with
  | none => rw [hi] at h; cases h
  | some i =>
    rw [hi] at h
    have h : i.size = n := by injection h
    subst h
    simp [Go.sizeOf, Go.typeInfo, Go.program, hi, bind, pure, Sem.bind, Sem.run]
/-! ### the sort does not see the order in which things come -/
def RelP {α : Type} (cf : α → α → Option Int) (a b : α) : Prop := ∃ c, cf a b = some c ∧ c < 0
structure OrdE {α : Type} (cf : α → α → Option Int) (l : List α) : Prop where
  tot : ∀ a b, a ∈ l → b ∈ l → ∃ c, cf a b = some c
  irr : ∀ a, a ∈ l → ¬ RelP cf a a
  tri : ∀ a b, a ∈ l → b ∈ l → a ≠ b → (RelP cf a b ∨ RelP cf b a) ∧ ¬ (RelP cf a b ∧ RelP cf b a)
  trans : ∀ a b c, a ∈ l → b ∈ l → c ∈ l → RelP cf a b → RelP cf b c → RelP cf a c
theorem OrdE.perm {α : Type} {cf : α → α → Option Int} {l m : List α} (h : OrdE cf l) (p : ∀ x, x ∈ m → x ∈ l) : OrdE cf m :=
  ⟨fun a b ha hb => h.tot a b (p a ha) (p b hb), fun a ha => h.irr a (p a ha), fun a b ha hb => h.tri a b (p a ha) (p b hb), fun a b c ha hb hc => h.trans a b c (p a ha) (p b hb) (p c hc)⟩
theorem getD_mem' {α : Type} {l : List α} {d : α} {i : Nat} (h : i < l.length) : l.getD i d = l[i] := by rw [List.getD_eq_getElem?_getD, List.getElem?_eq_getElem h]; rfl
theorem ltI_rel {α : Type} {cf : α → α → Option Int} {l : List α} {d : α} {i j : Nat} (hi : i < l.length) (hj : j < l.length) (ht : ∃ c, cf l[i] l[j] = some c) : ltI cf l d i j = true ↔ RelP cf l[i] l[j] := by
  obtain ⟨c, hc⟩ := ht
  unfold ltI cfI RelP
  rw [Nat.mod_eq_of_lt hi, Nat.mod_eq_of_lt hj, getD_mem' hi, getD_mem' hj, hc, Option.getD_some, decide_eq_true_eq]
  exact ⟨fun h => ⟨c, rfl, h⟩, fun ⟨c', h1, h2⟩ => by injection h1 with h1; omega⟩
theorem ordB_iff {α : Type} {cf : α → α → Option Int} {l : List α} {d : α} : ordB cf l d = true ↔ l.Nodup ∧ OrdE cf l := by
  constructor
  · intro h
    obtain ⟨o, ht⟩ := ordB_ok h
    have htt : ∀ i j, (hi : i < l.length) → (hj : j < l.length) → ∃ c, cf l[i] l[j] = some c := fun i j hi hj => by
      have := ht i j hi hj
      rw [getD_mem' hi, getD_mem' hj] at this
      exact this
    have hr : ∀ i j, (hi : i < l.length) → (hj : j < l.length) → (ltI cf l d i j = true ↔ RelP cf l[i] l[j]) := fun i j hi hj => ltI_rel hi hj (htt i j hi hj)
    have hne : ∀ i j, (hi : i < l.length) → (hj : j < l.length) → i ≠ j → l[i] ≠ l[j] := fun i j hi hj hij e => by
      have h1 := o.tri i j hi hj hij
      apply h1
      rw [Bool.eq_iff_iff, hr i j hi hj, hr j i hj hi, e]
    refine ⟨List.pairwise_iff_getElem.2 fun i j hi hj hij => hne i j hi hj (by omega), ⟨fun a b ha hb => ?_, fun a ha => ?_, fun a b ha hb hab => ?_, fun a b c ha hb hc h1 h2 => ?_⟩⟩
    · obtain ⟨i, hi, rfl⟩ := List.mem_iff_getElem.1 ha
      obtain ⟨j, hj, rfl⟩ := List.mem_iff_getElem.1 hb
      exact htt i j hi hj
    · obtain ⟨i, hi, rfl⟩ := List.mem_iff_getElem.1 ha
      intro h1
      have := (hr i i hi hi).2 h1
      rw [o.irr i hi] at this; cases this
    · obtain ⟨i, hi, rfl⟩ := List.mem_iff_getElem.1 ha
      obtain ⟨j, hj, rfl⟩ := List.mem_iff_getElem.1 hb
      have hij : i ≠ j := fun e => hab (by subst e; rfl)
      have h1 := o.tri i j hi hj hij
      rw [← hr i j hi hj, ← hr j i hj hi]
      cases h2 : ltI cf l d i j <;> cases h3 : ltI cf l d j i <;> rw [h2, h3] at h1 <;> simp_all
    · obtain ⟨i, hi, rfl⟩ := List.mem_iff_getElem.1 ha
      obtain ⟨j, hj, rfl⟩ := List.mem_iff_getElem.1 hb
      obtain ⟨k, hk, rfl⟩ := List.mem_iff_getElem.1 hc
      exact (hr i k hi hk).1 (o.trans i j k hi hj hk ((hr i j hi hj).2 h1) ((hr j k hj hk).2 h2))
  · rintro ⟨hn, h⟩
    have htt : ∀ i j, (hi : i < l.length) → (hj : j < l.length) → ∃ c, cf l[i] l[j] = some c := fun i j hi hj => h.tot _ _ (List.getElem_mem hi) (List.getElem_mem hj)
    have hr : ∀ i j, (hi : i < l.length) → (hj : j < l.length) → (ltI cf l d i j = true ↔ RelP cf l[i] l[j]) := fun i j hi hj => ltI_rel hi hj (htt i j hi hj)
    unfold ordB
    simp only [List.all_eq_true, List.mem_range, Bool.and_eq_true]
    intro i hi j hj
    refine ⟨⟨by rw [getD_mem' hi, getD_mem' hj]; obtain ⟨c, hc⟩ := htt i j hi hj; rw [hc]; rfl, ?_⟩, fun k hk => ?_⟩
    · by_cases e : i = j
      · rw [if_pos e]
        subst e
        cases h2 : ltI cf l d i i
        · rfl
        · exact absurd ((hr i i hi hi).1 h2) (h.irr _ (List.getElem_mem hi))
      · rw [if_neg e]
        have hne : l[i] ≠ l[j] := by
          have hp := List.pairwise_iff_getElem.1 hn
          rcases Nat.lt_or_gt_of_ne e with h1 | h1
          · exact hp i j hi hj h1
          · exact fun e => hp j i hj hi h1 e.symm
        have h1 := h.tri _ _ (List.getElem_mem hi) (List.getElem_mem hj) hne
        rw [← hr i j hi hj, ← hr j i hj hi] at h1
        cases h2 : ltI cf l d i j <;> cases h3 : ltI cf l d j i <;> rw [h2, h3] at h1 <;> simp_all
    · cases h1 : ltI cf l d i j
      · rfl
      cases h2 : ltI cf l d j k
      · rfl
      have := (hr i k hi hk).2 (h.trans _ _ _ (List.getElem_mem hi) (List.getElem_mem hj) (List.getElem_mem hk) ((hr i j hi hj).1 h1) ((hr j k hj hk).1 h2))
      rw [this]; rfl
theorem insI_permK (lt : Nat → Nat → Bool) (x : Nat) : ∀ l : List Nat, (insI lt x l).Perm (x :: l)
  | [] => List.Perm.refl _
  | y :: r => by
    rw [insI]
    split
    · exact List.Perm.refl _
    · exact ((insI_permK lt x r).cons y).trans (List.Perm.swap x y r)
theorem srtI_permK (lt : Nat → Nat → Bool) : ∀ l : List Nat, (srtI lt l).Perm l
  | [] => List.Perm.refl _
  | x :: r => by
    rw [srtI]
    exact (insI_permK lt x _).trans ((srtI_permK lt r).cons x)
theorem sortP_ex {α : Type} {cf : α → α → Option Int} {l : List α} {d : α} (hne : l ≠ []) (hl : l.length ≤ 100000000000) (hn : l.Nodup) (ho : OrdE cf l) : ∃ r, sortP cf l d = some r ∧ r.Perm l ∧ r.Pairwise (RelP cf) := by
  have hB := ordB_iff (d := d).2 ⟨hn, ho⟩
  obtain ⟨o, _⟩ := ordB_ok hB
  refine ⟨(srtI (ltI cf l d) (List.range l.length)).map fun i => l.getD i d, ?_, ?_, ?_⟩
  · unfold sortP
    rw [if_neg (by simp [hne]), if_pos hl, if_pos hB]
  · refine ((srtI_permK _ _).map _).trans ?_
    have : (List.range l.length).map (fun i => l.getD i d) = l := by
      apply List.ext_getElem
      · rw [List.length_map, List.length_range]
      · intro i h1 h2
        rw [List.getElem_map, List.getElem_range, getD_mem' h2]
    rw [this]
  · rw [List.pairwise_map]
    refine (srtI_pw o _ (fun y hy => List.mem_range.1 hy) List.nodup_range).imp_of_mem fun {a b} ha hb h => ?_
    have ha := List.mem_range.1 ((srtI_mem _ _ _).1 ha)
    have hb := List.mem_range.1 ((srtI_mem _ _ _).1 hb)
    rw [getD_mem' ha, getD_mem' hb]
    exact (ltI_rel ha hb (ho.tot _ _ (List.getElem_mem ha) (List.getElem_mem hb))).1 h
theorem sortP_some {α : Type} {cf : α → α → Option Int} {l r : List α} {d : α} (h : sortP cf l d = some r) : l ≠ [] ∧ l.length ≤ 100000000000 ∧ l.Nodup ∧ OrdE cf l ∧ r.Perm l ∧ r.Pairwise (RelP cf) := by
  have h0 := h
  unfold sortP at h
  split at h
  · cases h
  rename_i hne
  split at h
  rotate_left
  · cases h
  rename_i hl
  split at h
  rotate_left
  · cases h
  rename_i hB
  obtain ⟨hn, ho⟩ := ordB_iff.1 hB
  have hne : l ≠ [] := fun e => hne (by rw [e]; rfl)
  obtain ⟨r', h1, h2, h3⟩ := sortP_ex (d := d) hne hl hn ho
  rw [h0] at h1
  injection h1 with h1
  subst h1
  exact ⟨hne, hl, hn, ho, h2, h3⟩
theorem pw_uniqE {α : Type} {R : α → α → Prop} : ∀ (l m : List α), l.Pairwise R → m.Pairwise R → (∀ x, x ∈ l ↔ x ∈ m) → (∀ x y, x ∈ l → y ∈ l → R x y → R y x → False) → l = m
  | [], [], _, _, _, _ => rfl
  | [], y :: m, _, _, h, _ => by have := (h y).2 List.mem_cons_self; cases this
  | x :: l, [], _, _, h, _ => by have := (h x).1 List.mem_cons_self; cases this
  | x :: l, y :: m, hl, hm, h, ha => by
    rw [List.pairwise_cons] at hl hm
    have e : x = y := by
      refine Classical.byContradiction fun hne => ?_
      have h1 : x ∈ m := ((List.mem_cons.1 ((h x).1 List.mem_cons_self)).resolve_left hne)
      have h2 : y ∈ l := ((List.mem_cons.1 ((h y).2 List.mem_cons_self)).resolve_left fun e => hne e.symm)
      exact ha x y List.mem_cons_self (List.mem_cons_of_mem _ h2) (hl.1 y h2) (hm.1 x h1)
    subst e
    have hx : x ∉ l := fun hx => ha x x List.mem_cons_self List.mem_cons_self (hl.1 x hx) (hl.1 x hx)
    have hx2 : x ∉ m := fun hx => ha x x List.mem_cons_self List.mem_cons_self (hm.1 x hx) (hm.1 x hx)
    rw [pw_uniqE l m hl.2 hm.2 (fun z => ⟨fun hz => ((List.mem_cons.1 ((h z).1 (List.mem_cons_of_mem _ hz))).resolve_left fun e => hx (e ▸ hz)), fun hz => ((List.mem_cons.1 ((h z).2 (List.mem_cons_of_mem _ hz))).resolve_left fun e => hx2 (e ▸ hz))⟩) (fun a b ha' hb => ha a b (List.mem_cons_of_mem _ ha') (List.mem_cons_of_mem _ hb))]
theorem sortP_perm {α : Type} {cf : α → α → Option Int} {l m r : List α} {d : α} (hp : m.Perm l) (h : sortP cf l d = some r) : sortP cf m d = some r := by
  obtain ⟨hne, hl, hn, ho, h2, h3⟩ := sortP_some h
  have ho2 : OrdE cf m := ho.perm fun x hx => hp.mem_iff.1 hx
  obtain ⟨r', h4, h5, h6⟩ := sortP_ex (d := d) (fun e => hne (by rw [e] at hp; exact hp.nil_eq.symm)) (by rw [hp.length_eq]; exact hl) (hp.nodup_iff.2 hn) ho2
  have : r' = r := by
    have hm : ∀ x, x ∈ r' → x ∈ l := fun x hx => hp.mem_iff.1 (h5.mem_iff.1 hx)
    refine pw_uniqE r' r h6 h3 (fun x => by rw [h5.mem_iff, hp.mem_iff, h2.mem_iff]) fun x y hx hy h7 h8 => ?_
    by_cases e : x = y
    · subst e; exact ho.irr x (hm x hx) h7
    · exact (ho.tri x y (hm x hx) (hm y hy) e).2 ⟨h7, h8⟩
  rw [h4, this]
/-! ### a range over a map that gathers the keys -/
def keysAt {κ ν : Type} (l : List (κ × ν)) (seen : List Nat) : List κ := seen.filterMap fun q => (l[q]?).map Prod.fst
theorem keysAt_push {κ ν : Type} (l : List (κ × ν)) (seen : List Nat) {q : Nat} (hq : q < l.length) {kk : κ} {vv : ν} (he : l[q] = (kk, vv)) : keysAt l (seen ++ [q]) = keysAt l seen ++ [kk] := by
  unfold keysAt
  rw [List.filterMap_append]
  simp [List.getElem?_eq_getElem hq, he]
theorem keysAt_len {κ ν : Type} (l : List (κ × ν)) (seen : List Nat) : (keysAt l seen).length ≤ seen.length := List.length_filterMap_le _ _
theorem keysAt_all {κ ν : Type} {l : List (κ × ν)} {seen : List Nat} (hn : seen.Nodup) (hl : ∀ x ∈ seen, x < l.length) (hall : ∀ q, q < l.length → q ∈ seen) : (keysAt l seen).Perm (l.map Prod.fst) := by
  have hp : seen.Perm (List.range l.length) := (List.perm_ext_iff_of_nodup hn List.nodup_range).2 fun x => by rw [List.mem_range]; exact ⟨hl x, hall x⟩
  have h1 : keysAt l (List.range l.length) = l.map Prod.fst := by
    unfold keysAt
    have : ((List.range l.length).map fun q => (l[q]?).map Prod.fst).filterMap id = (List.range l.length).filterMap fun q => (l[q]?).map Prod.fst := by rw [List.filterMap_map]; rfl
    have h2 : (List.range l.length).map (fun q => (l[q]?).map Prod.fst) = (l.map Prod.fst).map some := by
      apply List.ext_getElem
      · simp
      · intro i a b
        have hi : i < l.length := by simpa using a
        simp [List.getElem?_eq_getElem hi]
    rw [← this, h2, List.filterMap_map]
    show (l.map Prod.fst).filterMap some = _
    rw [List.filterMap_some]
  rw [← h1]
  exact hp.filterMap _
theorem keys_step {n : Nat} {seen : List Nat} (hn : seen.Nodup) (hl : ∀ x ∈ seen, x < n) {q : Nat} (hq : q < n) (hqs : q ∉ seen) : (seen ++ [q]).Nodup ∧ (∀ x ∈ seen ++ [q], x < n) ∧ seen.length < n := by
  have hn' : (seen ++ [q]).Nodup := by
    rw [List.nodup_append]
    exact ⟨hn, List.nodup_cons.2 ⟨by simp, List.nodup_nil⟩, fun x hx y hy => by rw [List.mem_singleton] at hy; intro e; exact hqs (by rw [← hy, ← e]; exact hx)⟩
  have hl' : ∀ x ∈ seen ++ [q], x < n := fun x hx => by
    rcases List.mem_append.1 hx with h | h
    · exact hl x h
    · rw [List.mem_singleton] at h; rw [h]; exact hq
  refine ⟨hn', hl', ?_⟩
  obtain ⟨rest, hp⟩ := perm_of_seen hn' hl'
  have := hp.length_eq
  rw [List.length_append, List.length_append, List.length_range, List.length_singleton] at this
  omega
theorem WX.reE {Q : Exit → Act → World → Prop} {x : Exit} {N : Nat} {E : Env} {w : World} (E' : Env) (h : E = E') (k : WX Q x N E' w) : WX Q x N E w := h ▸ k
/-! ### copy into an owned slice of one-cell elements -/
def cpL {α : Type} (xs : List α) (lo : Nat) (ys : List α) : List α := xs.take lo ++ ys.take (xs.length - lo) ++ xs.drop (lo + ys.length)
theorem cpL_len {α : Type} {xs ys : List α} {lo : Nat} (h : lo ≤ xs.length) : (cpL xs lo ys).length = xs.length := by
  unfold cpL
  simp only [List.length_append, List.length_take, List.length_drop]
  omega
def cpN (n dl : Nat) : Int := ((Nat.min n dl : Nat) : Int)
theorem enc_one {α : Type} {e : Enc α} (hsz : e.sz = 1) (x : α) : ∃ v, e.enc x = [v] := by
  have := e.len x
  rw [hsz] at this
  match h : e.enc x, this with
  | [v], _ => exact ⟨v, rfl⟩
theorem flat_take1 {α : Type} {e : Enc α} (hsz : e.sz = 1) : ∀ (xs : List α) (n : Nat), (xs.flatMap e.enc).take n = (xs.take n).flatMap e.enc ∧ (xs.flatMap e.enc).drop n = (xs.drop n).flatMap e.enc
  | [], n => by simp
  | x :: xs, 0 => by simp
  | x :: xs, n + 1 => by
    obtain ⟨v, hv⟩ := enc_one hsz x
    obtain ⟨h1, h2⟩ := flat_take1 hsz xs n
    rw [List.flatMap_cons, hv, List.take_succ_cons, List.drop_succ_cons, List.flatMap_cons, hv]
    exact ⟨by show v :: (xs.flatMap e.enc).take n = v :: _; rw [h1]; rfl, by show (xs.flatMap e.enc).drop n = _; exact h2⟩
theorem copy_run {α : Type} {P : Program} {w : World} {e : Enc α} (hsz : e.sz = 1) {T tS ty : TypeId} (ht : P.underlying tS = some (.slice T)) (hinf : (P.info? T).map (fun i => i.size) = some 1) {A A2 D : Option Addr} {c c2 dc lo dl : Nat} {xs ys : List α} (hD : D = subA A c lo 1) (hdl : lo + dl = xs.length) (ho : (rowO T e A c xs).ok w) (hs : (rowR e A2 c2 ys).ok w) :
    ∃ w', (Builtin.copy_ #[tS, tS] ty #[.slice D dl dc, .slice A2 ys.length c2]).run P w = .ok (.int .i64 (cpN ys.length dl)) w' ∧ (rowO T e A c (cpL xs lo ys)).ok w' ∧ Keeps (ownFp A) w w' ∧ ∀ g, ownFp A g → (ownFp A g ∨ w.heap.size ≤ g) ∧ g < w'.heap.size := by
  have ho' : w.ownsRow 0 T e.sz (.slice A xs.length c) xs.length (xs.flatMap e.enc) := ho
  by_cases hm : Nat.min ys.length dl = 0
  · have he : cpL xs lo ys = xs := by
      unfold cpL
      rcases Nat.eq_zero_or_pos ys.length with h | h
      · have := List.eq_nil_of_length_eq_zero h
        subst this
        simp
      · have : dl = 0 := by
          have hm2 : min ys.length dl = 0 := hm
          omega
        rw [List.take_of_length_le (l := xs) (by omega), show xs.length - lo = 0 by omega, List.take_zero, List.drop_of_length_le (by omega)]
        simp
    refine ⟨w, ?_, by rw [he]; exact ho, ⟨rfl, rfl, rfl, Nat.le_refl _, fun _ _ _ => rfl, fun _ => Nat.le_refl _⟩, fun g hg => ⟨.inl hg, ?_⟩⟩
    · have := run_copy_none (P := P) w tS tS ty T D A2 dl dc ys.length c2 ht hinf hm
      rw [this]
      unfold cpN
      rw [hm]; rfl
    · rcases ho'.2 with ⟨h1, _⟩ | ⟨g', cap, cur, hv, _, hh, _⟩
      · obtain ⟨ad, h2, _⟩ := hg
        rw [h2] at h1; injection h1 with h1; cases h1
      · injection hv with hv
        obtain ⟨ad, h2, rfl⟩ := hg
        rw [hv] at h2
        injection h2 with h2
        subst h2
        exact (Array.getElem?_eq_some_iff.1 hh).1
  · have hd0 : 0 < dl := by
      rcases Nat.eq_zero_or_pos dl with h | h
      · exact absurd (by rw [h]; exact Nat.min_zero _) hm
      · exact h
    have hy0 : 0 < ys.length := by
      rcases Nat.eq_zero_or_pos ys.length with h | h
      · exact absurd (by rw [h]; exact Nat.zero_min _) hm
      · exact h
    rcases ho'.2 with ⟨_, h0⟩ | ⟨g, cap, cur, hv, _, hg, hnc, hcm, hcs, htk⟩
    · omega
    injection hv with hv _ hc
    subst hv hc
    rw [hsz, Nat.mul_one] at hcs htk
    obtain ⟨y0, hy⟩ : ∃ y, ys[0]? = some y := ⟨_, List.getElem?_eq_getElem hy0⟩
    have hA2 := (hs.1 0 y0 hy).1
    have hDD : D = some ⟨g, lo, none⟩ := by
      rw [hD]
      unfold subA
      rw [if_neg (by omega)]
      show some _ = _
      congr 1
      show Addr.add ⟨g, 0, none⟩ (lo * 1) = _
      rw [flatA_eq (a := ⟨g, 0, none⟩) rfl]
      unfold flatA
      simp
    obtain ⟨m, hmm⟩ : ∃ m, Nat.min ys.length dl = m := ⟨_, rfl⟩
    have hm1 : m ≤ ys.length := by rw [← hmm]; exact Nat.min_le_left _ _
    have hm2 : m ≤ dl := by rw [← hmm]; exact Nat.min_le_right _ _
    have hcl : ((ys.take m).flatMap e.enc).length = m := by rw [flat_len, hsz, Nat.mul_one, List.length_take, Nat.min_eq_left hm1]
    have hrun := run_copy_row (P := P) w tS tS ty T g lo dl dc (adr A2) ys.length c2 cur T ((ys.take m).flatMap e.enc) ht hinf hg (by rw [hcl]; exact hmm.symm) (fun j v hj => by
      have hjl : j < m := by rw [← hcl]; exact (List.getElem?_eq_some_iff.1 hj).1
      have hjy : j < ys.length := by omega
      obtain ⟨v0, hv0⟩ := enc_one hsz ys[j]
      have h1 := flat_at e (ys.take m) j ys[j] (by rw [List.getElem?_take, if_pos hjl, List.getElem?_eq_getElem hjy]) 0 v0 (by rw [hv0]; rfl)
      rw [hsz, Nat.mul_one, Nat.add_zero, hj] at h1
      injection h1 with h1
      have h2 := (hs.1 j ys[j] (List.getElem?_eq_getElem hjy)).2 0 v0 (by rw [hv0]; rfl)
      rw [hsz, Nat.mul_one] at h2
      rw [h1]
      have h3 : ((adr A2).add j).add 0 = (adr A2).add j := by unfold Addr.add; simp
      rw [h3] at h2
      exact h2) (by rw [hcl]; omega) (fun v hv => by
      obtain ⟨x, _, hx⟩ := List.mem_flatMap.1 hv
      exact e.one x v hx)
    rw [hcl] at hrun
    have hlt := (Array.getElem?_eq_some_iff.1 hg).1
    refine ⟨w.setRow g (cur.toList.take lo ++ (ys.take m).flatMap e.enc ++ cur.toList.drop (lo + m)).toArray, ?_, ?_, ⟨rfl, rfl, rfl, by show _ ≤ (w.heap.modify _ _).size; rw [Array.size_modify]; exact Nat.le_refl _, fun k hk hn => ?_, fun _ => Nat.le_refl _⟩, fun q hq => ⟨.inl hq, ?_⟩⟩
    · rw [← hDD, ← hA2] at hrun
      rw [hrun]
      unfold cpN
      rw [hmm]; rfl
    · show World.ownsRow _ 0 T e.sz (.slice (some ⟨g, 0, none⟩) (cpL xs lo ys).length c) (cpL xs lo ys).length ((cpL xs lo ys).flatMap e.enc)
      have hll := cpL_len (xs := xs) (ys := ys) (lo := lo) (by omega)
      rw [hll]
      refine ⟨by rw [flat_len, hll], .inr ⟨g, c, (cur.toList.take lo ++ (ys.take m).flatMap e.enc ++ cur.toList.drop (lo + m)).toArray, rfl, Nat.zero_le _, ?_, hnc, hcm, ?_, ?_⟩⟩
      · show (w.heap.modify g _)[g]? = _
        rw [Array.getElem?_modify, if_pos rfl, hg]; rfl
      · rw [hsz, Nat.mul_one, ← hcs]
        simp only [List.size_toArray, List.length_append, List.length_take, List.length_drop, hcl, Array.length_toList]
        omega
      · rw [hsz, Nat.mul_one]
        show (cur.toList.take lo ++ (ys.take m).flatMap e.enc ++ cur.toList.drop (lo + m)).take xs.length = _
        have hfl : (xs.flatMap e.enc).length = xs.length := by rw [flat_len, hsz, Nat.mul_one]
        have hcur : cur.toList = xs.flatMap e.enc ++ cur.toList.drop xs.length := by rw [← htk, List.take_append_drop]
        have t1 := congrArg (List.take lo) hcur
        rw [List.take_append_of_le_length (by omega)] at t1
        have d1 := congrArg (List.drop (lo + m)) hcur
        rw [List.drop_append_of_le_length (by omega)] at d1
        rw [t1, d1, ← List.append_assoc, List.take_append_of_le_length (by simp only [List.length_append, List.length_take, List.length_drop, hcl, hfl]; omega), List.take_of_length_le (by simp only [List.length_append, List.length_take, List.length_drop, hcl, hfl]; omega), (flat_take1 hsz xs lo).1, (flat_take1 hsz xs (lo + m)).2]
        unfold cpL
        rw [List.flatMap_append, List.flatMap_append]
        have e1 : ys.take m = ys.take (xs.length - lo) := by
          have hmm2 : min ys.length dl = m := hmm
          rw [show xs.length - lo = dl by omega]
          rcases Nat.le_total ys.length dl with h2 | h2
          · rw [List.take_of_length_le (by omega), List.take_of_length_le (by omega)]
          · rw [show m = dl by omega]
        have e2 : xs.drop (lo + m) = xs.drop (lo + ys.length) := by
          have hmm2 : min ys.length dl = m := hmm
          rcases Nat.le_total ys.length dl with h2 | h2
          · rw [show m = ys.length by omega]
          · rw [List.drop_of_length_le (by omega), List.drop_of_length_le (by omega)]
        rw [e1, e2]
    · show (w.heap.modify g _)[k]? = _
      rw [Array.getElem?_modify, if_neg (fun e => hn ⟨_, rfl, e.symm⟩)]
    · obtain ⟨ad, h2, rfl⟩ := hq
      injection h2 with h2
      subst h2
      show _ < (w.heap.modify _ _).size
      rw [Array.size_modify]; exact hlt
theorem subA_zero (A : Option Addr) (c z : Nat) : A = subA A c 0 z := by
  unfold subA
  split
  · rfl
  · cases A with
    | none => rfl
    | some a =>
      show some a = some (a.add (0 * z))
      congr 1
      unfold Addr.add
      simp
def cpCall (o : Oper) : Option (Nat × Operand × Operand × TypeId × TypeId) :=
  match o.op, o.dst with
  | .call cl, some d => match cl.callee, cl.args.toList, cl.argTypes.toList with
    | .builtin .copy, [s, x], [t, u] => some (d, s, x, t, u)
    | _, _, _ => none
  | _, _ => none
theorem cpCall_eq {o : Oper} {d : Nat} {s x : Operand} {t u : TypeId} (h : cpCall o = some (d, s, x, t, u)) : o.dst = some d ∧ o.op = .call { callee := .builtin .copy, args := #[s, x], argTypes := #[t, u] } := by
  unfold cpCall at h
  split at h
  · rename_i cl d' hop hd
    split at h
    · rename_i s' x' t' u' h1 h2 h3
      injection h with h; injection h with e1 h; injection h with e2 h; injection h with e3 h; injection h with e4 e5
      subst e1 e2 e3 e4 e5
      refine ⟨hd, ?_⟩
      obtain ⟨ce, ags, ts⟩ := cl
      cases ags; cases ts
      simp only at h1 h2 h3
      subst h1 h2 h3
      exact hop
    · cases h
  · cases h
def evCp (P : Program) (ops : Array Oper) (lst : List (Nat × Oper)) (fl : List Nat) (N : Nat) (fb : Operand → Value) (i : Nat) (E : Env) : Option (Nat × TypeId × Value × Value) :=
  match lst.drop i with
  | (k, o) :: _ => bif wantE ops E o && !memN k fl then (match cpCall o with
    | some (d, s, x, t, u) => bif Nat.beq t u && Nat.blt d N then some (d, t, rho E fb s, rho E fb x) else none
    | none => none) else none
  | [] => none
theorem WL.copy {α : Type} {P : Program} {ops : Array Oper} {lst : List (Nat × Oper)} {Q : Exit → Act → World → Prop} {F : FF} {N : Nat} {i : Nat} {E : Env} {S : Nat → Prop} {w0 w : World} {R L : List Own} (hS : St S w0 w R L)
    (j : Nat) {e : Enc α} (hsz : e.sz = 1) {T tS : TypeId} {A A2 D : Option Addr} {c c2 dc dl : Nat} (lo : Nat) {xs ys : List α} {d : Nat} (hj : at_ L j = rowO T e A c xs)
    (h : ∀ fb, evCp P ops lst F.2.1 N fb i E = some (d, tS, .slice D dl dc, .slice A2 ys.length c2)) (hD : D = subA A c lo 1) (hdl : lo + dl = xs.length) (hs : (rowR e A2 c2 ys).ok w)
    (ht : P.underlying tS = some (.slice T)) (hinf : (P.info? T).map (fun i => i.size) = some 1) (ks : List Nat) (hd : ∀ k, k ∈ ks → k ∉ [j]) (hn : ks.Nodup)
    (k : ∀ w1, St S w0 w1 R (rowO T e A c (cpL xs lo ys) :: sel L ks) → CellsA F lst i w1 ∧ WL P ops lst Q F (i + 1) N ((d, .int .i64 (cpN ys.length dl)) :: E) w1) : WL P ops lst Q F i N E w := by
  intro fb a ha
  have h := h fb
  unfold evCp at h
  split at h
  · rename_i k_ o r ho
    cases hw2 : (wantE ops E o && !memN k_ F.2.1)
    · rw [hw2] at h; cases h
    · rw [hw2] at h
      simp only [cond_true] at h
      simp only [Bool.and_eq_true, Bool.not_eq_true'] at hw2
      obtain ⟨hw, hfl⟩ := hw2
      split at h
      · rename_i d' s x t u hap
        obtain ⟨hdst, hop⟩ := cpCall_eq hap
        cases hb : (Nat.beq t u && Nat.blt d' N)
        · rw [hb] at h; cases h
        · rw [hb] at h
          simp only [cond_true] at h
          injection h with h; injection h with h1 h2; injection h2 with h2 h3; injection h3 with h3 h4
          subst h1 h2
          rw [Bool.and_eq_true] at hb
          have hu := Nat.eq_of_beq_eq_true hb.1
          subst hu
          have hown : (rowO T e A c xs).ok w := by have := (hS.own j).1; rw [hj] at this; exact this
          obtain ⟨w', hr, ho', hk', hf'⟩ := copy_run (P := P) (ty := o.type) (dc := dc) (c2 := c2) hsz ht hinf hD hdl hown hs
          rw [ho]
          unfold wpL
          rw [if_pos (wantE_of ha hw)]
          rw [if_neg (by rw [hfl]; simp)]; left
          unfold Oper.wpA execOp
          rw [ha.ev]
          simp only [hop, resolve, invoke, builtin, Sem.run_bind, Sem.run_pure, Result.andThen_ok, List.map_toArray, List.map_cons, List.map_nil, h3, h4, hr, upA]
          have hS' := hS.call (St.one hk' ho' hf') [j] ks (fun g hg => ⟨j, by simp, by rw [hj]; exact hg⟩) hd hn
          have := (k w' hS').2 fb (a.put o.dst _) (by rw [hdst]; exact ha.put (blt_lt hb.2) _)
          rw [drop_cons ho] at this
          exact ⟨.inr ((k w' hS').1.at ho), this⟩
      · cases h
  · cases h
end Gw
namespace Go.Proofs
open Go.Shelf
def Tryz.sortT88_ren : Go.Shelf.Ren := ⟨fun | 6 => 88 | 15 => 109 | 14 => 108 | 28 => 125 | 29 => 126 | 20 => 117 | 21 => 118 | 22 => 119 | 23 => 120 | 24 => 121 | 25 => 122 | 26 => 123 | 27 => 124 | 46 => 136 | 47 => 137 | 48 => 138 | 49 => 139 | 50 => 140 | 57 => 144 | n => n, fun | 22 => 79 | 24 => 100 | 25 => 139 | 3 => 3 | 39 => 160 | 0 => 0 | 53 => 177 | 55 => 57 | 4 => 4 | 46 => 170 | 45 => 169 | 50 => 174 | 5 => 5 | 9 => 9 | 66 => 185 | 70 => 189 | 76 => 193 | 77 => 194 | n => n, fun | n => n⟩
theorem Tryz.sortT88 : Go.Proofs.SlLaysF0.n6 Tryz.prog Tryz.sortT88_ren := {
  mixed := by kernel_rfl
  f6 := ⟨Tryz.f88.name, by decide, Tryz.func88.trans (congrArg some (by kernel_rfl))⟩
  f14 := ⟨Tryz.f108.name, by decide, Tryz.func108.trans (congrArg some (by kernel_rfl))⟩
  f15 := Tryz.func109.trans (congrArg some (by kernel_rfl))
  f20 := ⟨Tryz.f117.name, by decide, Tryz.func117.trans (congrArg some (by kernel_rfl))⟩
  f21 := ⟨Tryz.f118.name, by decide, Tryz.func118.trans (congrArg some (by kernel_rfl))⟩
  f22 := ⟨Tryz.f119.name, by decide, Tryz.func119.trans (congrArg some (by kernel_rfl))⟩
  f23 := ⟨Tryz.f120.name, by decide, Tryz.func120.trans (congrArg some (by kernel_rfl))⟩
  f24 := ⟨Tryz.f121.name, by decide, Tryz.func121.trans (congrArg some (by kernel_rfl))⟩
  f25 := ⟨Tryz.f122.name, by decide, Tryz.func122.trans (congrArg some (by kernel_rfl))⟩
  f26 := ⟨Tryz.f123.name, by decide, Tryz.func123.trans (congrArg some (by kernel_rfl))⟩
  f27 := ⟨Tryz.f124.name, by decide, Tryz.func124.trans (congrArg some (by kernel_rfl))⟩
  f28 := Tryz.func125.trans (congrArg some (by kernel_rfl))
  f29 := Tryz.func126.trans (congrArg some (by kernel_rfl))
  f46 := ⟨Tryz.f136.name, by decide, Tryz.func136.trans (congrArg some (by kernel_rfl))⟩
  f47 := Tryz.func137.trans (congrArg some (by kernel_rfl))
  f48 := Tryz.func138.trans (congrArg some (by kernel_rfl))
  f49 := ⟨Tryz.f139.name, by decide, Tryz.func139.trans (congrArg some (by kernel_rfl))⟩
  f50 := ⟨Tryz.f140.name, by decide, Tryz.func140.trans (congrArg some (by kernel_rfl))⟩
  f57 := ⟨Tryz.f144.name, by decide, Tryz.func144.trans (congrArg some (by kernel_rfl))⟩
  t0 := Tryz.underlying0
  a0 := Tryz.isAgg0
  z0 := Tryz.sizeOf0
  v0 := Tryz.zeroValue0
  t3 := Tryz.underlying3
  a3 := Tryz.isAgg3
  z3 := Tryz.sizeOf3
  v3 := Tryz.zeroValue3
  t4 := Tryz.underlying4
  a4 := Tryz.isAgg4
  z4 := Tryz.sizeOf4
  v4 := Tryz.zeroValue4
  t5 := Tryz.underlying5
  a5 := Tryz.isAgg5
  z5 := Tryz.sizeOf5
  v5 := Tryz.zeroValue5
  t9 := Tryz.underlying9
  a9 := Tryz.isAgg9
  z9 := Tryz.sizeOf9
  v9 := Tryz.zeroValue9
  t22 := Tryz.underlying79
  a22 := Tryz.isAgg79
  z22 := Tryz.sizeOf79
  v22 := Tryz.zeroValue79
  t25 := Tryz.underlying139
  a25 := Tryz.isAgg139
  z25 := Tryz.sizeOf139
  v25 := Tryz.zeroValue139
  t39 := Tryz.underlying160
  a39 := Tryz.isAgg160
  z39 := Tryz.sizeOf160
  v39 := Tryz.zeroValue160
  t45 := Tryz.underlying169
  a45 := Tryz.isAgg169
  z45 := Tryz.sizeOf169
  v45 := Tryz.zeroValue169
  t46 := Tryz.underlying170
  a46 := Tryz.isAgg170
  z46 := Tryz.sizeOf170
  v46 := Tryz.zeroValue170
  t50 := Tryz.underlying174
  a50 := Tryz.isAgg174
  z50 := Tryz.sizeOf174
  v50 := Tryz.zeroValue174
  t53 := Tryz.underlying177
  a53 := Tryz.isAgg177
  z53 := Tryz.sizeOf177
  v53 := Tryz.zeroValue177
  t55 := Tryz.underlying57
  a55 := Tryz.isAgg57
  z55 := Tryz.sizeOf57
  v55 := Tryz.zeroValue57
  t66 := Tryz.underlying185
  a66 := Tryz.isAgg185
  z66 := Tryz.sizeOf185
  v66 := Tryz.zeroValue185
  t70 := Tryz.underlying189
  a70 := Tryz.isAgg189
  z70 := Tryz.sizeOf189
  v70 := Tryz.zeroValue189
  t76 := Tryz.underlying193
  a76 := Tryz.isAgg193
  z76 := Tryz.sizeOf193
  v76 := Tryz.zeroValue193
  t77 := Tryz.underlying194
  a77 := Tryz.isAgg194
  z77 := Tryz.sizeOf194
  v77 := Tryz.zeroValue194 }
end Go.Proofs
namespace Go.Proofs
open Go.Shelf
def Tryz.sortT106_ren : Go.Shelf.Ren := ⟨fun | 6 => 106 | 15 => 109 | 14 => 116 | 28 => 125 | 29 => 126 | 20 => 128 | 21 => 129 | 22 => 130 | 23 => 131 | 24 => 132 | 25 => 133 | 26 => 134 | 27 => 135 | 46 => 141 | 47 => 137 | 48 => 138 | 49 => 142 | 50 => 143 | 57 => 145 | n => n, fun | 22 => 132 | 24 => 135 | 25 => 157 | 3 => 3 | 39 => 160 | 0 => 0 | 53 => 177 | 55 => 57 | 4 => 4 | 46 => 170 | 45 => 169 | 50 => 174 | 5 => 5 | 9 => 9 | 66 => 185 | 70 => 189 | 76 => 193 | 77 => 194 | n => n, fun | n => n⟩
theorem Tryz.sortT106 : Go.Proofs.SlLaysF0.n6 Tryz.prog Tryz.sortT106_ren := {
  mixed := by kernel_rfl
  f6 := ⟨Tryz.f106.name, by decide, Tryz.func106.trans (congrArg some (by kernel_rfl))⟩
  f14 := ⟨Tryz.f116.name, by decide, Tryz.func116.trans (congrArg some (by kernel_rfl))⟩
  f15 := Tryz.func109.trans (congrArg some (by kernel_rfl))
  f20 := ⟨Tryz.f128.name, by decide, Tryz.func128.trans (congrArg some (by kernel_rfl))⟩
  f21 := ⟨Tryz.f129.name, by decide, Tryz.func129.trans (congrArg some (by kernel_rfl))⟩
  f22 := ⟨Tryz.f130.name, by decide, Tryz.func130.trans (congrArg some (by kernel_rfl))⟩
  f23 := ⟨Tryz.f131.name, by decide, Tryz.func131.trans (congrArg some (by kernel_rfl))⟩
  f24 := ⟨Tryz.f132.name, by decide, Tryz.func132.trans (congrArg some (by kernel_rfl))⟩
  f25 := ⟨Tryz.f133.name, by decide, Tryz.func133.trans (congrArg some (by kernel_rfl))⟩
  f26 := ⟨Tryz.f134.name, by decide, Tryz.func134.trans (congrArg some (by kernel_rfl))⟩
  f27 := ⟨Tryz.f135.name, by decide, Tryz.func135.trans (congrArg some (by kernel_rfl))⟩
  f28 := Tryz.func125.trans (congrArg some (by kernel_rfl))
  f29 := Tryz.func126.trans (congrArg some (by kernel_rfl))
  f46 := ⟨Tryz.f141.name, by decide, Tryz.func141.trans (congrArg some (by kernel_rfl))⟩
  f47 := Tryz.func137.trans (congrArg some (by kernel_rfl))
  f48 := Tryz.func138.trans (congrArg some (by kernel_rfl))
  f49 := ⟨Tryz.f142.name, by decide, Tryz.func142.trans (congrArg some (by kernel_rfl))⟩
  f50 := ⟨Tryz.f143.name, by decide, Tryz.func143.trans (congrArg some (by kernel_rfl))⟩
  f57 := ⟨Tryz.f145.name, by decide, Tryz.func145.trans (congrArg some (by kernel_rfl))⟩
  t0 := Tryz.underlying0
  a0 := Tryz.isAgg0
  z0 := Tryz.sizeOf0
  v0 := Tryz.zeroValue0
  t3 := Tryz.underlying3
  a3 := Tryz.isAgg3
  z3 := Tryz.sizeOf3
  v3 := Tryz.zeroValue3
  t4 := Tryz.underlying4
  a4 := Tryz.isAgg4
  z4 := Tryz.sizeOf4
  v4 := Tryz.zeroValue4
  t5 := Tryz.underlying5
  a5 := Tryz.isAgg5
  z5 := Tryz.sizeOf5
  v5 := Tryz.zeroValue5
  t9 := Tryz.underlying9
  a9 := Tryz.isAgg9
  z9 := Tryz.sizeOf9
  v9 := Tryz.zeroValue9
  t22 := Tryz.underlying132
  a22 := Tryz.isAgg132
  z22 := Tryz.sizeOf132
  v22 := Tryz.zeroValue132
  t25 := Tryz.underlying157
  a25 := Tryz.isAgg157
  z25 := Tryz.sizeOf157
  v25 := Tryz.zeroValue157
  t39 := Tryz.underlying160
  a39 := Tryz.isAgg160
  z39 := Tryz.sizeOf160
  v39 := Tryz.zeroValue160
  t45 := Tryz.underlying169
  a45 := Tryz.isAgg169
  z45 := Tryz.sizeOf169
  v45 := Tryz.zeroValue169
  t46 := Tryz.underlying170
  a46 := Tryz.isAgg170
  z46 := Tryz.sizeOf170
  v46 := Tryz.zeroValue170
  t50 := Tryz.underlying174
  a50 := Tryz.isAgg174
  z50 := Tryz.sizeOf174
  v50 := Tryz.zeroValue174
  t53 := Tryz.underlying177
  a53 := Tryz.isAgg177
  z53 := Tryz.sizeOf177
  v53 := Tryz.zeroValue177
  t55 := Tryz.underlying57
  a55 := Tryz.isAgg57
  z55 := Tryz.sizeOf57
  v55 := Tryz.zeroValue57
  t66 := Tryz.underlying185
  a66 := Tryz.isAgg185
  z66 := Tryz.sizeOf185
  v66 := Tryz.zeroValue185
  t70 := Tryz.underlying189
  a70 := Tryz.isAgg189
  z70 := Tryz.sizeOf189
  v70 := Tryz.zeroValue189
  t76 := Tryz.underlying193
  a76 := Tryz.isAgg193
  z76 := Tryz.sizeOf193
  v76 := Tryz.zeroValue193
  t77 := Tryz.underlying194
  a77 := Tryz.isAgg194
  z77 := Tryz.sizeOf194
  v77 := Tryz.zeroValue194 }
end Go.Proofs
