/- The sort: what comes of it, as the library's contract tells it at this program. -/
import Derived.Test.YtpbnoldflfcllaaGb
import Derived.Shelf.SlSortCmp.Whole1
import Derived.Shelf.SlLaysF
set_option linter.unusedVariables false
set_option linter.unusedSimpArgs false
set_option maxHeartbeats 4000000
set_option maxRecDepth 8000
namespace Gw
open Go Go.RowKit Go.Deep
/-! ### the sort: what comes of it, where the comparison is told and is an order -/
def cfI {α : Type} (cf : α → α → Option Int) (l : List α) (d : α) (i j : Nat) : Int := (cf (l.getD (i % l.length) d) (l.getD (j % l.length) d)).getD 0
def ltI {α : Type} (cf : α → α → Option Int) (l : List α) (d : α) (i j : Nat) : Bool := decide (cfI cf l d i j < 0)
def ordB {α : Type} (cf : α → α → Option Int) (l : List α) (d : α) : Bool := (List.range l.length).all fun i => (List.range l.length).all fun j => (cf (l.getD i d) (l.getD j d)).isSome && (if i = j then !ltI cf l d i j else ltI cf l d i j != ltI cf l d j i) && (List.range l.length).all fun k => !(ltI cf l d i j && ltI cf l d j k) || ltI cf l d i k
def insI (lt : Nat → Nat → Bool) (x : Nat) : List Nat → List Nat
  | [] => [x]
  | y :: r => if lt x y = true then x :: y :: r else y :: insI lt x r
def srtI (lt : Nat → Nat → Bool) : List Nat → List Nat
  | [] => []
  | x :: r => insI lt x (srtI lt r)
def sortP {α : Type} (cf : α → α → Option Int) (l : List α) (d : α) : Option (List α) := if l.isEmpty = true then none else if l.length ≤ 100000000000 then (if ordB cf l d = true then some ((srtI (ltI cf l d) (List.range l.length)).map fun i => l.getD i d) else none) else none
/-- A strict order of the places below n. -/
structure OrdN (lt : Nat → Nat → Bool) (n : Nat) : Prop where
  irr : ∀ i, i < n → lt i i = false
  tri : ∀ i j, i < n → j < n → i ≠ j → lt i j ≠ lt j i
  trans : ∀ i j k, i < n → j < n → k < n → lt i j = true → lt j k = true → lt i k = true
theorem ordB_ok {α : Type} {cf : α → α → Option Int} {l : List α} {d : α} (h : ordB cf l d = true) : OrdN (ltI cf l d) l.length ∧ ∀ i j, i < l.length → j < l.length → ∃ r, cf (l.getD i d) (l.getD j d) = some r := by
  unfold ordB at h
  simp only [List.all_eq_true, List.mem_range, Bool.and_eq_true, Bool.or_eq_true, Bool.not_eq_true'] at h
  refine ⟨⟨fun i hi => ?_, fun i j hi hj hne => ?_, fun i j k hi hj hk h1 h2 => ?_⟩, fun i j hi hj => ?_⟩
  · have := (h i hi i hi).1.2
    rw [if_pos rfl] at this
    simpa using this
  · have := (h i hi j hj).1.2
    rw [if_neg hne] at this
    simpa using this
  · rcases (h i hi j hj).2 k hk with h3 | h3
    · rw [h1, h2] at h3; cases h3
    · exact h3
  · exact Option.isSome_iff_exists.1 (h i hi j hj).1.1
theorem insI_mem (lt : Nat → Nat → Bool) (x y : Nat) : ∀ l : List Nat, y ∈ insI lt x l ↔ y = x ∨ y ∈ l
  | [] => by simp [insI]
  | z :: r => by
    rw [insI]
    split
    · simp
    · rw [List.mem_cons, insI_mem lt x y r, List.mem_cons]
      constructor
      · rintro (h | h | h)
        · exact .inr (.inl h)
        · exact .inl h
        · exact .inr (.inr h)
      · rintro (h | h | h)
        · exact .inr (.inl h)
        · exact .inl h
        · exact .inr (.inr h)
theorem srtI_mem (lt : Nat → Nat → Bool) (y : Nat) : ∀ l : List Nat, y ∈ srtI lt l ↔ y ∈ l
  | [] => Iff.rfl
  | x :: r => by rw [srtI, insI_mem, srtI_mem lt y r, List.mem_cons]
theorem insI_pw {lt : Nat → Nat → Bool} {n : Nat} (o : OrdN lt n) {x : Nat} (hx : x < n) : ∀ l : List Nat, (∀ y ∈ l, y < n ∧ y ≠ x) → l.Pairwise (fun a b => lt a b = true) → (insI lt x l).Pairwise (fun a b => lt a b = true)
  | [], _, _ => by rw [insI]; exact List.pairwise_singleton _ _
  | y :: r, h, hp => by
    rw [List.pairwise_cons] at hp
    obtain ⟨hy, hne⟩ := h y List.mem_cons_self
    rw [insI]
    split
    · rename_i hlt
      rw [List.pairwise_cons, List.pairwise_cons]
      refine ⟨fun z hz => ?_, hp⟩
      rcases List.mem_cons.1 hz with rfl | hz
      · exact hlt
      · exact o.trans x y z hx hy (h z (List.mem_cons_of_mem _ hz)).1 hlt (hp.1 z hz)
    · rename_i hlt
      rw [List.pairwise_cons]
      refine ⟨fun z hz => ?_, insI_pw o hx r (fun z hz => h z (List.mem_cons_of_mem _ hz)) hp.2⟩
      rcases (insI_mem lt x z r).1 hz with rfl | hz
      · have := o.tri y z hy hx hne
        cases h1 : lt y z
        · rw [h1] at this
          cases h2 : lt z y
          · rw [h2] at this; exact absurd rfl this
          · exact absurd h2 hlt
        · rfl
      · exact hp.1 z hz
theorem srtI_pw {lt : Nat → Nat → Bool} {n : Nat} (o : OrdN lt n) : ∀ l : List Nat, (∀ y ∈ l, y < n) → l.Nodup → (srtI lt l).Pairwise (fun a b => lt a b = true)
  | [], _, _ => List.Pairwise.nil
  | x :: r, h, hn => by
    rw [List.nodup_cons] at hn
    rw [srtI]
    refine insI_pw o (h x List.mem_cons_self) _ (fun y hy => ?_) (srtI_pw o r (fun y hy => h y (List.mem_cons_of_mem _ hy)) hn.2)
    rw [srtI_mem] at hy
    exact ⟨h y (List.mem_cons_of_mem _ hy), fun e => hn.1 (e ▸ hy)⟩
theorem pw_uniq {R : Nat → Nat → Prop} : ∀ (l m : List Nat), l.Pairwise R → m.Pairwise R → (∀ x, x ∈ l ↔ x ∈ m) → (∀ x y, x ∈ l → y ∈ l → R x y → R y x → False) → l = m
  | [], [], _, _, _, _ => rfl
  | [], y :: m, _, _, h, _ => by have := (h y).2 List.mem_cons_self; cases this
  | x :: l, [], _, _, h, _ => by have := (h x).1 List.mem_cons_self; cases this
  | x :: l, y :: m, hl, hm, h, ha => by
    rw [List.pairwise_cons] at hl hm
    have e : x = y := by
      refine Classical.byContradiction fun hne => ?_
      have h1 : x ∈ m := ((List.mem_cons.1 ((h x).1 List.mem_cons_self)).resolve_left hne)
      have h2 : y ∈ l := ((List.mem_cons.1 ((h y).2 List.mem_cons_self)).resolve_left fun e => hne e.symm)
      exact ha x y List.mem_cons_self (List.mem_cons_of_mem _ h2) (hl.1 y h2) (hm.1 x h1)
    subst e
    have hx : x ∉ l := fun hx => ha x x List.mem_cons_self List.mem_cons_self (hl.1 x hx) (hl.1 x hx)
    have hx2 : x ∉ m := fun hx => ha x x List.mem_cons_self List.mem_cons_self (hm.1 x hx) (hm.1 x hx)
    rw [pw_uniq l m hl.2 hm.2 (fun z => ⟨fun hz => ((List.mem_cons.1 ((h z).1 (List.mem_cons_of_mem _ hz))).resolve_left fun e => hx (e ▸ hz)), fun hz => ((List.mem_cons.1 ((h z).2 (List.mem_cons_of_mem _ hz))).resolve_left fun e => hx2 (e ▸ hz))⟩) (fun a b ha' hb => ha a b (List.mem_cons_of_mem _ ha') (List.mem_cons_of_mem _ hb))]
/-- What the sort leaves is this list. -/
theorem sorted_is {lt : Nat → Nat → Bool} {n : Nat} (o : OrdN lt n) {d : List Nat} (hp : d.Perm (List.range n)) (hs : d.Pairwise (fun a b => lt b a = false)) : d = srtI lt (List.range n) := by
  have hm : ∀ x, x ∈ d ↔ x < n := fun x => hp.mem_iff.trans List.mem_range
  have hn : d.Nodup := hp.nodup_iff.2 List.nodup_range
  have h1 : d.Pairwise (fun a b => lt a b = true) := by
    have := List.Pairwise.and hs hn
    refine List.Pairwise.imp_of_mem (fun {a b} ha hb h => ?_) this
    have := o.tri a b ((hm a).1 ha) ((hm b).1 hb) h.2
    rw [h.1] at this
    cases hab : lt a b
    · rw [hab] at this; exact absurd rfl this
    · rfl
  refine pw_uniq d _ h1 (srtI_pw o _ (fun y hy => List.mem_range.1 hy) List.nodup_range) (fun x => by rw [srtI_mem, hm, List.mem_range]) (fun x y hx hy a b => ?_)
  have := o.trans x y x ((hm x).1 hx) ((hm y).1 hy) ((hm x).1 hx) a b
  rw [o.irr x ((hm x).1 hx)] at this
  cases this
theorem swo_of {α : Type} {cf : α → α → Option Int} {l : List α} {d : α} (h0 : 0 < l.length) (o : OrdN (ltI cf l d) l.length) : Sort.SWO (fun i j => decide (cfI cf l d i j < 0)) := by
  have hm : ∀ i j, ltI cf l d i j = ltI cf l d (i % l.length) (j % l.length) := fun i j => by
    unfold ltI cfI
    rw [Nat.mod_mod, Nat.mod_mod]
  have hl : ∀ i, i % l.length < l.length := fun i => Nat.mod_lt _ h0
  refine ⟨fun x => ?_, fun x y z h1 h2 => ?_, fun x y z h1 h2 => ?_⟩
  · show ltI cf l d x x = false
    rw [hm]; exact o.irr _ (hl x)
  · have h1 : ltI cf l d x y = true := h1
    have h2 : ltI cf l d y z = true := h2
    show ltI cf l d x z = true
    rw [hm] at h1 h2 ⊢
    exact o.trans _ _ _ (hl x) (hl y) (hl z) h1 h2
  · have h1 : ltI cf l d x y = false := h1
    have h2 : ltI cf l d y z = false := h2
    show ltI cf l d x z = false
    rw [hm] at h1 h2 ⊢
    cases h3 : ltI cf l d (x % l.length) (z % l.length)
    · rfl
    · exfalso
      by_cases e1 : x % l.length = y % l.length
      · rw [e1, h2] at h3; cases h3
      · by_cases e2 : y % l.length = z % l.length
        · rw [← e2, h1] at h3; cases h3
        · have t1 := o.tri _ _ (hl x) (hl y) e1
          have t2 := o.tri _ _ (hl y) (hl z) e2
          rw [h1] at t1
          rw [h2] at t2
          have g1 : ltI cf l d (y % l.length) (x % l.length) = true := by
            cases h : ltI cf l d (y % l.length) (x % l.length)
            · rw [h] at t1; exact absurd rfl t1
            · rfl
          have g2 : ltI cf l d (z % l.length) (y % l.length) = true := by
            cases h : ltI cf l d (z % l.length) (y % l.length)
            · rw [h] at t2; exact absurd rfl t2
            · rfl
          have g3 := o.trans _ _ _ (hl z) (hl y) (hl x) g2 g1
          have g4 := o.trans _ _ _ (hl x) (hl z) (hl x) h3 g3
          rw [o.irr _ (hl x)] at g4
          cases g4
/-! ### the sort of slices of slices, in memory -/
theorem keep_grow {w w' : World} (h : Keeps NoS w w') (hd : DR) : ∃ q os', w' = Go.Sort.grow (w.drewN q) os' := by
  refine ⟨w'.drawn - w.drawn, w'.heap.extract w.heap.size w'.heap.size, ?_⟩
  have h1 := h.os
  have h2 := h.tape
  have h3 := h.output
  have h4 := h.drawn hd
  have hh : w'.heap = w.heap ++ w'.heap.extract w.heap.size w'.heap.size := by
    apply Array.ext_getElem?
    intro k
    rw [Array.getElem?_append]
    split
    · rename_i hk; exact h.block k hk id
    · rename_i hk
      rw [Array.getElem?_extract]
      have hs := h.size
      by_cases hk2 : k < w'.heap.size
      · rw [if_pos (by omega), show w.heap.size + (k - w.heap.size) = k by omega]
      · rw [if_neg (by omega), Array.getElem?_eq_none (by omega)]
  unfold Go.Sort.grow World.drewN
  cases w; cases w'
  simp only at h1 h2 h3 h4 hh ⊢
  rw [← hh, h1, h2, h3, Nat.add_sub_cancel' h4]
theorem srt_world {β : Type} [Inhabited β] {enc : β → Value} {w : World} {g m : Nat} {dk : Array β} {os : Array Obj} {cur : Array Value} {T : TypeId} {fz : Nat × Nat} (hg : w.heap[g]? = some (.cells cur T fz)) (hn : dk.size ≤ cur.size) :
    Keeps (fun k => k = g) w (Go.Proofs.sortWorld enc w g 0 m dk os) ∧ (Go.Proofs.sortWorld enc w g 0 m dk os).heap[g]? = some (.cells (Go.Sort.putCells enc 0 dk cur) T fz) ∧ (Go.Sort.putCells enc 0 dk cur).size = cur.size ∧ (Go.Sort.putCells enc 0 dk cur).toList.take dk.size = dk.toList.map enc := by
  have hlt : g < w.heap.size := (Array.getElem?_eq_some_iff.1 hg).1
  have hsz : (w.heap.modify g (Go.Sort.onCells (Go.Sort.putCells enc 0 dk))).size = w.heap.size := Array.size_modify ..
  have hheap : (Go.Proofs.sortWorld enc w g 0 m dk os).heap = w.heap.modify g (Go.Sort.onCells (Go.Sort.putCells enc 0 dk)) ++ os := rfl
  refine ⟨⟨rfl, rfl, rfl, ?_, fun k hk hne => ?_, fun _ => Nat.le_add_right _ _⟩, ?_, ?_, ?_⟩
  · rw [hheap, Array.size_append, hsz]; omega
  · rw [hheap, Array.getElem?_append_left (by rw [hsz]; exact hk), Array.getElem?_modify, if_neg (fun e => hne e.symm)]
  · rw [hheap, Array.getElem?_append_left (by rw [hsz]; exact hlt), Array.getElem?_modify, if_pos rfl, hg]; rfl
  · unfold Go.Sort.putCells; rw [Array.size_mapIdx]
  · apply List.ext_getElem?
    intro i
    rw [List.getElem?_take, List.getElem?_map]
    by_cases hi : i < dk.size
    · rw [if_pos hi, Array.getElem?_toList, Array.getElem?_toList]
      unfold Go.Sort.putCells
      rw [Array.getElem?_mapIdx, Array.getElem?_eq_getElem (show i < cur.size by omega), Array.getElem?_eq_getElem hi]
      simp only [Option.map_some]
      rw [if_pos (by omega), Nat.sub_zero, getElem!_pos dk i hi]
    · rw [if_neg hi, Array.getElem?_toList, Array.getElem?_eq_none (by omega)]; rfl
theorem cells1 {α : Type} : ∀ (xs : List ((Option Addr × Nat) × List α)), xs.flatMap (encSl α).enc = xs.map fun x => Value.slice x.1.1 x.2.length x.1.2
  | [] => rfl
  | x :: xs => by rw [List.flatMap_cons, cells1 xs]; rfl
theorem sort_calls {α : Type} {P : Program} {ρ : Go.Shelf.Ren} (L : Go.Proofs.SlLaysF.n6 P ρ) {T Te : TypeId} (e : Enc α) (g : Nat) (cf : List α → List α → Option Int)
    (eg : ∀ args w, (callFunc g args).run P w = .ok (.enter g args) w)
    (hc : ∀ (x y : List α) (Ax : Option Addr) (cx : Nat) (Ay : Option Addr) (cy : Nat) (r : Int) (w : World), RO NoS w (rowR e Ax cx x) → RO NoS w (rowR e Ay cy y) → cf x y = some r → CallsR P g #[.slice Ax x.length cx, .slice Ay y.length cy] w (fun v w' => v = .int .i64 r ∧ Keeps NoS w w'))
    (hd : DR) (l r : List (List α)) (A : Option Addr) (c : Nat) (hs : HF) (w : World) (hI : IoOK w [rowO T (encSl α) A c (tag hs l), rowsO Te e hs l]) (hf : sortP cf l [] = some r) :
    CallsR P (ρ.f 6) #[.slice A l.length c, .func (.func g) #[] #[]] w (fun v w' => ∃ hs' : HF, v = .tuple #[] ∧ St (fpL [rowO T (encSl α) A c (tag hs l), rowsO Te e hs l]) w w' [] [rowO T (encSl α) A c (tag hs' r), rowsO Te e hs' r]) := by
  unfold sortP at hf
  split at hf
  · cases hf
  rename_i hne
  split at hf
  rotate_left
  · cases hf
  rename_i hlen
  split at hf
  rotate_left
  · cases hf
  rename_i hord
  injection hf with hf
  obtain ⟨o, htold⟩ := ordB_ok hord
  have h0 : 0 < l.length := by
    cases l with
    | nil => exact absurd rfl hne
    | cons a b => exact Nat.succ_pos _
  have ok1 : w.ownsRow 0 T 1 (.slice A (tag hs l).length c) (tag hs l).length ((tag hs l).flatMap (encSl α).enc) := (hI.own 0).1
  have ok2 : (rowsO Te e hs l).ok w := (hI.own 1).1
  rw [tag_length] at ok1
  rcases ok1.2 with ⟨_, h1⟩ | ⟨gb, cap, cur, hv, _, hg, hle, hcap, hcs, htk⟩
  · omega
  injection hv with hA _ hcc
  subst hA hcc
  rw [Nat.mul_one] at hcs htk
  have hlt : gb < w.heap.size := (Array.getElem?_eq_some_iff.1 hg).1
  have hsep : ∀ i xs, l[i]? = some xs → ∀ q, ownFp (hs i).1 q → q ≠ gb := fun i xs hx q hq e => by
    subst e
    exact hI.sep 0 1 (by decide) q ⟨_, rfl, rfl⟩ ⟨i, xs, hx, hq⟩
  have hsize : ∀ i xs, l[i]? = some xs → ∀ q, ownFp (hs i).1 q → q < w.heap.size := fun i xs hx q hq => (hI.own 1).2 q ⟨i, xs, hx, hq⟩
  let n := l.length
  let enc : Nat → Value := fun i => .slice (hs (i % l.length)).1 (l.getD (i % l.length) []).length (hs (i % l.length)).2
  have hml : ∀ i, i % l.length < l.length := fun i => Nat.mod_lt _ h0
  have hget : ∀ i, i < l.length → l[i]? = some (l.getD i []) := fun i hi => by rw [List.getD_eq_getElem?_getD, List.getElem?_eq_getElem hi]; rfl
  have hcur : ∀ j, j < l.length → cur[j]? = some (enc j) := fun j hj => by
    have h2 : (cur.toList.take l.length)[j]? = some (enc j) := by
      rw [htk, cells1, List.getElem?_map, tag_get, hget j hj]
      show some (Value.slice (hs j).1 (l.getD j []).length (hs j).2) = _
      show _ = some (Value.slice (hs (j % l.length)).1 (l.getD (j % l.length) []).length (hs (j % l.length)).2)
      rw [Nat.mod_eq_of_lt hj]
    rw [List.getElem?_take, if_pos hj, Array.getElem?_toList] at h2
    exact h2
  -- what stays
  have hro : ∀ (W : World), Keeps (fun k => k = gb) w W → ∀ i, i < l.length → RO NoS W (rowO Te e (hs i).1 (hs i).2 (l.getD i [])) := fun W hW i hi => by
    refine ⟨(rowO Te e (hs i).1 (hs i).2 (l.getD i [])).loc w W (fun q hq => ?_) (ok2.1 i _ (hget i hi)), fun q hq => ⟨Nat.lt_of_lt_of_le (hsize i _ (hget i hi) q hq) hW.size, id⟩⟩
    exact hW.block q (hsize i _ (hget i hi) q hq) (hsep i _ (hget i hi) q hq)
  have hdsz : (List.range l.length).toArray.size = l.length := by simp
  have hcmp : Go.Proofs.CmpLays1 P g #[] enc (cfI cf l []) gb 0 (List.range l.length).toArray.size w := by
    intro m os dk hdk x y
    obtain ⟨hK, _, _, _⟩ := srt_world (enc := enc) (m := m) (dk := dk) (os := os) hg (by rw [hdk, hdsz]; omega)
    obtain ⟨q, hq⟩ := htold (x % l.length) (y % l.length) (hml x) (hml y)
    have hr := hc _ _ _ _ _ _ q _ ((hro _ hK _ (hml x)).ofO) ((hro _ hK _ (hml y)).ofO) hq
    have e1 : cfI cf l [] x y = q := by unfold cfI; rw [hq]; rfl
    rw [e1]
    refine Calls.mono hr ?_
    rintro ee w' ⟨v, rfl, rfl, hk⟩
    exact ⟨rfl, keep_grow hk hd⟩
  have hH : Go.Sort.Holds enc w gb 0 (List.range l.length).toArray := fun j hj => by
    rw [hdsz] at hj
    have hj2 : (List.range l.length).toArray[j]! = j := by
      rw [getElem!_pos _ j (by rw [hdsz]; exact hj)]; simp
    rw [hj2, Nat.zero_add]
    refine ⟨?_, by simp [World.frozen?, hg]⟩
    show (match w.heap[gb]? with | some (.cells c _ _) => _ | _ => none) = _
    rw [hg]
    exact hcur j hj
  have h1 : Go.Proofs.OneCell enc := fun x => rfl
  have hcall := Go.Proofs.Any.slices_SortFunc L enc h1 (cfI cf l []) (swo_of h0 o) g #[] gb 0 c (List.range l.length).toArray w eg hcmp hH hlt (by rw [hdsz]; omega)
  rw [hdsz] at hcall
  refine Calls.mono hcall ?_
  rintro ee w' ⟨rfl, d', nn, os, hp, hso, rfl⟩
  have hds : d'.size = l.length := by rw [hp.1, hdsz]
  have hperm : d'.toList.Perm (List.range l.length) := by
    have h3 := hp.2.2
    rw [show d'.extract 0 l.length = d' by rw [← hds]; exact Array.extract_size, show (List.range l.length).toArray.extract 0 l.length = (List.range l.length).toArray by rw [← hdsz]; simp] at h3
    simpa using h3
  have hpw : d'.toList.Pairwise (fun a b => ltI cf l [] b a = false) := by
    rw [List.pairwise_iff_getElem]
    intro i j hi hj hij
    have hi' : i < d'.size := by simpa using hi
    have hj' : j < d'.size := by simpa using hj
    have h3 := hso i j (Nat.zero_le _) hij (by omega)
    rw [getElem!_pos d' i hi', getElem!_pos d' j hj'] at h3
    have h5 : ltI cf l [] d'[j] d'[i] = false := h3
    simpa using h5
  have hs2 := sorted_is o hperm hpw
  obtain ⟨s, hseq⟩ : ∃ s, srtI (ltI cf l []) (List.range l.length) = s := ⟨_, rfl⟩
  rw [hseq] at hs2 hf
  have hsl : s.length = l.length := by rw [← hs2, Array.length_toList, hds]
  have hslt : ∀ j, j < l.length → s.getD j 0 < l.length := fun j hj => by
    have hm : s.getD j 0 ∈ s := by
      rw [List.getD_eq_getElem?_getD, List.getElem?_eq_getElem (by omega)]; exact List.getElem_mem _
    have hm2 : s.getD j 0 ∈ d'.toList := by rw [hs2]; exact hm
    exact List.mem_range.1 (hperm.mem_iff.1 hm2)
  have hsn : s.Nodup := by rw [← hs2]; exact hperm.nodup_iff.2 List.nodup_range
  have hrl : r.length = l.length := by rw [← hf, List.length_map, hsl]
  have hrget : ∀ j xs, r[j]? = some xs → j < l.length ∧ xs = l.getD (s.getD j 0) [] := fun j xs hx => by
    have hj : j < l.length := by rw [← hrl]; exact (List.getElem?_eq_some_iff.1 hx).1
    refine ⟨hj, ?_⟩
    rw [← hf, List.getElem?_map, List.getElem?_eq_getElem (by omega)] at hx
    injection hx with hx
    have e0 : s.getD j 0 = s[j]'(by omega) := by rw [List.getD_eq_getElem?_getD, List.getElem?_eq_getElem (show j < s.length by omega)]; rfl
    rw [← hx, e0]
  obtain ⟨hK, hheap, hcz, htake⟩ := srt_world (enc := enc) (m := nn) (dk := d') (os := os) hg (by omega)
  rw [hs2] at htake
  refine ⟨_, rfl, fun j => hs (s.getD j 0), rfl, ?_⟩
  have okr : (rowO T (encSl α) (some ⟨gb, 0, none⟩) c (tag (fun j => hs (s.getD j 0)) r)).ok (Go.Proofs.sortWorld enc w gb 0 nn d' os) := by
    show World.ownsRow _ 0 T 1 (.slice (some ⟨gb, 0, none⟩) (tag (fun j => hs (s.getD j 0)) r).length c) (tag (fun j => hs (s.getD j 0)) r).length ((tag (fun j => hs (s.getD j 0)) r).flatMap (encSl α).enc)
    rw [cells1, tag_length, hrl]
    refine ⟨by rw [List.length_map, tag_length, hrl, Nat.mul_one], .inr ⟨gb, c, _, rfl, Nat.zero_le _, hheap, hle, hcap, by rw [hcz, hcs, Nat.mul_one], ?_⟩⟩
    rw [Nat.mul_one, ← hds, htake]
    apply List.ext_getElem?
    intro j
    rw [List.getElem?_map, List.getElem?_map, tag_get]
    by_cases hj : j < l.length
    · have hj2 : j < s.length := by omega
      have hj3 : j < r.length := by omega
      have e1 : s[j]? = some (s.getD j 0) := by rw [List.getD_eq_getElem?_getD, List.getElem?_eq_getElem hj2]; rfl
      have e2 : r[j]? = some (l.getD (s.getD j 0) []) := by
        have := hrget j r[j] (List.getElem?_eq_getElem hj3)
        rw [List.getElem?_eq_getElem hj3, this.2]
      rw [e1, e2]
      show some (Value.slice (hs (s.getD j 0 % l.length)).1 (l.getD (s.getD j 0 % l.length) []).length (hs (s.getD j 0 % l.length)).2) = some (Value.slice (hs (s.getD j 0)).1 (l.getD (s.getD j 0) []).length (hs (s.getD j 0)).2)
      rw [Nat.mod_eq_of_lt (hslt j hj)]
    · rw [List.getElem?_eq_none (by omega), List.getElem?_eq_none (by omega)]; rfl
  have oks : (rowsO Te e (fun j => hs (s.getD j 0)) r).ok (Go.Proofs.sortWorld enc w gb 0 nn d' os) := by
    refine ⟨fun i xs hx => ?_, fun i j xs ys hx hy hij q h1 h2 => ?_⟩
    · obtain ⟨hi, rfl⟩ := hrget i xs hx
      exact (hro _ hK _ (hslt i hi)).1
    · obtain ⟨hi, rfl⟩ := hrget i xs hx
      obtain ⟨hj, rfl⟩ := hrget j ys hy
      refine ok2.2 _ _ _ _ (hget _ (hslt i hi)) (hget _ (hslt j hj)) (fun e => ?_) q h1 h2
      rw [List.getD_eq_getElem?_getD, List.getD_eq_getElem?_getD, List.getElem?_eq_getElem (show i < s.length by omega), List.getElem?_eq_getElem (show j < s.length by omega)] at e
      have hpn := List.pairwise_iff_getElem.1 hsn
      have e : s[i]'(by omega) = s[j]'(by omega) := e
      rcases Nat.lt_or_gt_of_ne hij with h | h
      · exact hpn i j (by omega) (by omega) h e
      · exact hpn j i (by omega) (by omega) h e.symm
  have hfs : ∀ q, (rowsO Te e (fun j => hs (s.getD j 0)) r).fp q → (rowsO Te e hs l).fp q := fun q ⟨i, xs, hx, hq⟩ => by
    obtain ⟨hi, rfl⟩ := hrget i xs hx
    exact ⟨s.getD i 0, _, hget _ (hslt i hi), hq⟩
  refine ⟨⟨hK.os, hK.tape, hK.output, hK.size, fun k hk hn => hK.block k hk (fun e => hn ⟨0, ⟨⟨gb, 0, none⟩, rfl, e⟩⟩), hK.drawn⟩, fun i => by rw [at_nil]; exact ⟨trivial, fun _ h => h.elim⟩, fun i => ?_, fun i j hij q h1 h2 => ?_⟩
  · match i with
    | 0 => exact ⟨okr, fun q hq => ⟨.inl ⟨0, hq⟩, by obtain ⟨ad, h3, rfl⟩ := hq; injection h3 with h3; subst h3; exact Nat.lt_of_lt_of_le hlt hK.size⟩⟩
    | 1 => exact ⟨oks, fun q hq => ⟨.inl ⟨1, hfs q hq⟩, Nat.lt_of_lt_of_le ((hI.own 1).2 q (hfs q hq)) hK.size⟩⟩
    | i + 2 => exact ⟨trivial, fun q hq => hq.elim⟩
  · have h01 : ∀ q, (rowO T (encSl α) (some ⟨gb, 0, none⟩) c (tag (fun j => hs (s.getD j 0)) r)).fp q → (rowsO Te e (fun j => hs (s.getD j 0)) r).fp q → False := fun q h1 h2 => by
      obtain ⟨ad, h3, rfl⟩ := h1
      injection h3 with h3
      subst h3
      exact hI.sep 0 1 (by decide) _ ⟨_, rfl, rfl⟩ (hfs _ h2)
    match i, j with
    | 0, 0 => exact hij rfl
    | 1, 1 => exact hij rfl
    | 0, 1 => exact h01 q h1 h2
    | 1, 0 => exact h01 q h2 h1
    | i + 2, _ => exact (show False from h1).elim
    | _, j + 2 => exact (show False from h2).elim
theorem sortP_len {α : Type} {cf : α → α → Option Int} {l : List α} {d : α} {r : List α} (h : sortP cf l d = some r) : r.length = l.length := by
  unfold sortP at h
  split at h
  · cases h
  split at h
  rotate_left
  · cases h
  split at h
  rotate_left
  · cases h
  injection h with h
  have hl : ∀ (lt : Nat → Nat → Bool) (x : Nat) (m : List Nat), (insI lt x m).length = m.length + 1 := fun lt x m => by
    induction m with
    | nil => rfl
    | cons y m ih =>
      rw [insI]
      split
      · rfl
      · rw [List.length_cons, ih, List.length_cons]
  have hs : ∀ (lt : Nat → Nat → Bool) (m : List Nat), (srtI lt m).length = m.length := fun lt m => by
    induction m with
    | nil => rfl
    | cons y m ih => rw [srtI, hl, ih, List.length_cons]
  rw [← h, List.length_map, hs, List.length_range]
theorem drT : DR := trivial
end Gw
namespace Go.Proofs
open Go.Shelf
def Try.sortT39_ren : Go.Shelf.Ren := ⟨fun | 6 => 39 | 15 => 58 | 14 => 57 | 28 => 81 | 29 => 82 | 20 => 73 | 21 => 74 | 22 => 75 | 23 => 76 | 24 => 77 | 25 => 78 | 26 => 79 | 27 => 80 | 46 => 88 | 47 => 89 | 48 => 90 | 49 => 91 | 50 => 92 | 57 => 97 | n => n, fun | 22 => 22 | 24 => 28 | 25 => 67 | 3 => 3 | 39 => 91 | 0 => 0 | 53 => 120 | 55 => 122 | 4 => 4 | 46 => 113 | 45 => 112 | 50 => 117 | 5 => 5 | 9 => 9 | 66 => 127 | 70 => 73 | 76 => 141 | 77 => 142 | n => n, fun | n => n⟩
theorem Try.sortT39 : Go.Proofs.SlLaysF.n6 Try.prog Try.sortT39_ren := {
  mixed := by kernel_rfl
  f6 := ⟨Try.f39.name, by decide, Try.func39.trans (congrArg some (by kernel_rfl))⟩
  f14 := ⟨Try.f57.name, by decide, Try.func57.trans (congrArg some (by kernel_rfl))⟩
  f15 := Try.func58.trans (congrArg some (by kernel_rfl))
  f20 := ⟨Try.f73.name, by decide, Try.func73.trans (congrArg some (by kernel_rfl))⟩
  f21 := ⟨Try.f74.name, by decide, Try.func74.trans (congrArg some (by kernel_rfl))⟩
  f22 := ⟨Try.f75.name, by decide, Try.func75.trans (congrArg some (by kernel_rfl))⟩
  f23 := ⟨Try.f76.name, by decide, Try.func76.trans (congrArg some (by kernel_rfl))⟩
  f24 := ⟨Try.f77.name, by decide, Try.func77.trans (congrArg some (by kernel_rfl))⟩
  f25 := ⟨Try.f78.name, by decide, Try.func78.trans (congrArg some (by kernel_rfl))⟩
  f26 := ⟨Try.f79.name, by decide, Try.func79.trans (congrArg some (by kernel_rfl))⟩
  f27 := ⟨Try.f80.name, by decide, Try.func80.trans (congrArg some (by kernel_rfl))⟩
  f28 := Try.func81.trans (congrArg some (by kernel_rfl))
  f29 := Try.func82.trans (congrArg some (by kernel_rfl))
  f46 := ⟨Try.f88.name, by decide, Try.func88.trans (congrArg some (by kernel_rfl))⟩
  f47 := Try.func89.trans (congrArg some (by kernel_rfl))
  f48 := Try.func90.trans (congrArg some (by kernel_rfl))
  f49 := ⟨Try.f91.name, by decide, Try.func91.trans (congrArg some (by kernel_rfl))⟩
  f50 := ⟨Try.f92.name, by decide, Try.func92.trans (congrArg some (by kernel_rfl))⟩
  f57 := ⟨Try.f97.name, by decide, Try.func97.trans (congrArg some (by kernel_rfl))⟩
  t0 := Try.underlying0
  a0 := Try.isAgg0
  z0 := Try.sizeOf0
  v0 := Try.zeroValue0
  t3 := Try.underlying3
  a3 := Try.isAgg3
  z3 := Try.sizeOf3
  v3 := Try.zeroValue3
  t4 := Try.underlying4
  a4 := Try.isAgg4
  z4 := Try.sizeOf4
  v4 := Try.zeroValue4
  t5 := Try.underlying5
  a5 := Try.isAgg5
  z5 := Try.sizeOf5
  v5 := Try.zeroValue5
  t9 := Try.underlying9
  a9 := Try.isAgg9
  z9 := Try.sizeOf9
  v9 := Try.zeroValue9
  t22 := Try.underlying22
  a22 := Try.isAgg22
  z22 := Try.sizeOf22
  v22 := Try.zeroValue22
  a24 := Try.isAgg28
  z24 := Try.sizeOf28
  t25 := Try.underlying67
  a25 := Try.isAgg67
  z25 := Try.sizeOf67
  v25 := Try.zeroValue67
  t39 := Try.underlying91
  a39 := Try.isAgg91
  z39 := Try.sizeOf91
  v39 := Try.zeroValue91
  t45 := Try.underlying112
  a45 := Try.isAgg112
  z45 := Try.sizeOf112
  v45 := Try.zeroValue112
  t46 := Try.underlying113
  a46 := Try.isAgg113
  z46 := Try.sizeOf113
  v46 := Try.zeroValue113
  t50 := Try.underlying117
  a50 := Try.isAgg117
  z50 := Try.sizeOf117
  v50 := Try.zeroValue117
  t53 := Try.underlying120
  a53 := Try.isAgg120
  z53 := Try.sizeOf120
  v53 := Try.zeroValue120
  t55 := Try.underlying122
  a55 := Try.isAgg122
  z55 := Try.sizeOf122
  v55 := Try.zeroValue122
  t66 := Try.underlying127
  a66 := Try.isAgg127
  z66 := Try.sizeOf127
  v66 := Try.zeroValue127
  t70 := Try.underlying73
  a70 := Try.isAgg73
  z70 := Try.sizeOf73
  v70 := Try.zeroValue73
  t76 := Try.underlying141
  a76 := Try.isAgg141
  z76 := Try.sizeOf141
  v76 := Try.zeroValue141
  t77 := Try.underlying142
  a77 := Try.isAgg142
  z77 := Try.sizeOf142
  v77 := Try.zeroValue142 }
end Go.Proofs
