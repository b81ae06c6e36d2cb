/- The framework's second part: regions that draw their order; stores into rows; what comes in is opened; nested rows, maps, ranges over functions. -/
import Derived.Test.YtdjkmioemobdbaaGreatGa
import Derived.Maps.RangeRun
import Derived.Laws.IdiomRangeMap
set_option linter.unusedVariables false
set_option linter.unusedSimpArgs false
set_option maxHeartbeats 4000000
set_option maxRecDepth 8000
namespace Gw
open Go Go.RowKit

/-! ### 12. a region that draws its order -/
def tmpsL : List Operand → List Nat
 | [] => []
 | .tmp t :: r => t :: tmpsL r
 | _ :: r => tmpsL r
theorem tmpsL_mem {t : Nat} : ∀ {l : List Operand}, .tmp t ∈ l → t ∈ tmpsL l
 | o :: r, h => by
  rcases List.mem_cons.1 h with rfl | h'
  ·simp [tmpsL]
  ·have ih := tmpsL_mem h'
   cases o <;> simp [tmpsL, ih]
theorem memN_iff {n : Nat} : ∀ {l : List Nat}, memN n l = true ↔ n ∈ l
 | [] => by simp [memN]
 | k :: r => by
  simp only [memN, List.mem_cons]
  cases h : Nat.beq k n
  ·have : n ≠ k := fun e => by subst e; simp at h
   simp [this, memN_iff]
  ·have := Nat.eq_of_beq_eq_true h
   subst this; simp
def agreeOn (ρ ρ' : Operand → Value) (l : List Operand) : Prop := ∀ x, x ∈ l → ρ x = ρ' x
theorem map_agree {ρ ρ' : Operand → Value} {xs : Array Operand} (h : agreeOn ρ ρ' xs.toList) : xs.map ρ = xs.map ρ' := by
 apply Array.map_congr_left
 intro x hx
 exact h x (by simpa using hx)
theorem omap_agree {ρ ρ' : Operand → Value} {x : Option Operand} (h : agreeOn ρ ρ' x.toArray.toList) : x.map ρ = x.map ρ' := by
 cases x with
 | none => rfl
 | some y => simp [h y (by simp)]
theorem pmap_agree {ρ ρ' : Operand → Value} {ps : Array (Nat × Operand)} (h : agreeOn ρ ρ' (ps.toList.map (·.2))) : (ps.map fun (i, x) => (i, ρ x)) = (ps.map fun (i, x) => (i, ρ' x)) := by
 apply Array.map_congr_left
 rintro ⟨i, x⟩ hx
 have := h x (by simp; exact ⟨i, by simpa using hx⟩)
 simp [this]
theorem agree_app {ρ ρ' : Operand → Value} {l m : List Operand} (h : agreeOn ρ ρ' (l ++ m)) : agreeOn ρ ρ' l ∧ agreeOn ρ ρ' m := ⟨fun x hx => h x (List.mem_append_left _ hx), fun x hx => h x (List.mem_append_right _ hx)⟩
theorem resolve_agree {ρ ρ' : Operand → Value} {c : Call} {t : TypeId} (h : agreeOn ρ ρ' c.operands.toList) : resolve ρ c t = resolve ρ' c t := by
 obtain ⟨ce, ar, ats⟩ := c
 cases ce with
 | value f =>
  simp only [Call.operands, Array.toList_append] at h
  have h1 := agree_app h
  simp only [resolve, map_agree h1.2, h1.1 f (by simp)]
 | invoke r m =>
  simp only [Call.operands, Array.toList_append] at h
  have h1 := agree_app h
  simp only [resolve, map_agree h1.2, h1.1 r (by simp)]
 | builtin b =>
  simp only [Call.operands, Array.toList_append] at h
  have h1 := agree_app h
  simp only [resolve, map_agree h1.2]
def plainOp : Op → Bool
 | .select .. | .go _ | .defer _ | .panic _ | .send .. | .recv .. => false
 | _ => true
theorem exec_agree {ρ ρ' : Operand → Value} {o : Oper} (hp : plainOp o.op = true) (h : agreeOn ρ ρ' o.op.operands.toList) : execOp ρ o = execOp ρ' o := by
 unfold execOp
 cases ho : o.op <;> rw [ho] at h hp <;> simp only [plainOp] at hp <;> simp only [Op.operands] at h <;> try (first | cases hp; done)
 case move x => simp only [h x (by simp)]
 case assign x => simp only [h x (by simp)]
 case pick c a b => simp only [h c (by simp), h a (by simp), h b (by simp)]
 case box e v => simp only [h v (by simp)]
 case build t ps => simp only [pmap_agree (ρ := ρ) (ρ' := ρ') (ps := ps) (by simpa using h)]
 case buildSlice t l ps => simp only [pmap_agree (ρ := ρ) (ρ' := ρ') (ps := ps) (by simpa using h)]
 case insert t m k v => simp only [h m (by simp), h k (by simp), h v (by simp)]
 case load t a => simp only [h a (by simp)]
 case store t a v => simp only [h a (by simp), h v (by simp)]
 case nilCheck x => simp only [h x (by simp)]
 case binOp op t x y u => simp only [h x (by simp), h y (by simp)]
 case unOp op t x => simp only [h x (by simp)]
 case convert s d x => simp only [h x (by simp)]
 case sliceToArrayPointer d x => simp only [h x (by simp)]
 case makeInterface t x => simp only [h x (by simp)]
 case makeFunc f fi ca =>
  have h1 := agree_app (by simpa using h)
  simp only [map_agree (ρ := ρ) (ρ' := ρ') (xs := fi) h1.1, map_agree (ρ := ρ) (ρ' := ρ') (xs := ca) h1.2]
 case makeMap t r => simp only [omap_agree h]
 case makeChan t s => simp only [h s (by simp)]
 case makeSlice t l c => simp only [h l (by simp), h c (by simp)]
 case slice t x lo hi mx =>
  cases lo <;> cases hi <;> cases mx <;> (simp [agreeOn] at h; simp [h])
 case fieldAddr t x f => simp only [h x (by simp)]
 case field t x f => simp only [h x (by simp)]
 case indexAddr t x i => simp only [h x (by simp), h i (by simp)]
 case index t x i => simp only [h x (by simp), h i (by simp)]
 case lookup t x i c => simp only [h x (by simp), h i (by simp)]
 case mapUpdate t m k v => simp only [h m (by simp), h k (by simp), h v (by simp)]
 case mapEntry t m k => simp only [h m (by simp), h k (by simp)]
 case entryStore t m s v => simp only [h m (by simp), h s (by simp), h v (by simp)]
 case range t x => simp only [h x (by simp)]
 case next i s => simp only [h i (by simp)]
 case entry i => simp only [h i (by simp)]
 case typeAssert x t u c => simp only [h x (by simp)]
 case extract t i => simp only [h t (by simp)]
 case call c => simp only [resolve_agree h]
theorem put_comm (a : Act) {d d' : Option Nat} (h : ∀ x, d = some x → d' ≠ some x) (v u : Value) : (a.put d v).put d' u = (a.put d' u).put d v := by
 cases d with
 | none => rfl
 | some x =>
  cases d' with
  | none => rfl
  | some y =>
   have hne : x ≠ y := fun e => h x rfl (by rw [e])
   simp only [Act.put]
   congr 1
   apply Array.ext_getElem?
   intro i
   simp only [Array.getElem?_setIfInBounds, Array.size_setIfInBounds]
   by_cases h1 : x = i <;> by_cases h2 : y = i <;> simp_all
def guardD (ops : Array Oper) (o : Oper) : Option Nat := match o.guard with
 | some (j, _) => (ops[j]?).bind (·.dst)
 | none => none
def indep1 (ops : Array Oper) (x y : Oper) : Bool := match x.dst with
 | none => true
 | some d => !memN d (tmpsL y.op.operands.toList) && (match guardD ops y with
  | some g => !Nat.beq g d
  | none => true) && (match y.dst with
  | some e => !Nat.beq e d
  | none => true)
theorem getD_put {a : Act} {d : Option Nat} {v : Value} {t : Nat} (h : d ≠ some t) : (a.put d v).tmps.getD t undef = a.tmps.getD t undef := by
 cases d with
 | none => rfl
 | some x =>
  have hne : x ≠ t := fun e => h (by rw [e])
  simp only [Act.put, Array.getD_eq_getD_getElem?, Array.getElem?_setIfInBounds]
  simp [hne]
theorem get_put {a : Act} {d : Option Nat} {v : Value} {t : Nat} (h : d ≠ some t) : (a.put d v).tmps[t]? = a.tmps[t]? := by
 cases d with
 | none => rfl
 | some x =>
  have hne : x ≠ t := fun e => h (by rw [e])
  simp only [Act.put, Array.getElem?_setIfInBounds]
  simp [hne]
theorem indep1_agree {ops : Array Oper} {x y : Oper} (h : indep1 ops x y = true) (a : Act) (v : Value) : agreeOn (a.put x.dst v).eval a.eval y.op.operands.toList := by
 intro o ho
 cases o with
 | tmp t =>
  have ht := tmpsL_mem ho
  simp only [Act.eval]
  apply getD_put
  intro e
  unfold indep1 at h
  rw [e] at h
  simp only [Bool.and_eq_true, Bool.not_eq_true'] at h
  have := h.1.1
  rw [memN_iff.2 ht] at this
  cases this
 | _ => rfl
theorem indep1_wanted {ops : Array Oper} {x y : Oper} (h : indep1 ops x y = true) (a : Act) (v : Value) : Region.wanted y (yielded ops (a.put x.dst v).tmps) = Region.wanted y (yielded ops a.tmps) := by
 unfold Region.wanted
 cases hg : y.guard with
 | none => rfl
 | some p =>
  obtain ⟨j, want⟩ := p
  have : yielded ops (a.put x.dst v).tmps j = yielded ops a.tmps j := by
   unfold yielded
   cases hj : (ops[j]?).bind (·.dst) with
   | none => rfl
   | some dj =>
    simp only [Option.bind_some]
    rw [get_put]
    intro e
    unfold indep1 guardD at h
    rw [e, hg] at h
    simp only [hj, Bool.and_eq_true, Bool.not_eq_true'] at h
    have h2 := h.1.2
    simp at h2
  simp only [this]
theorem indep1_dst {ops : Array Oper} {x y : Oper} (h : indep1 ops x y = true) : ∀ d, x.dst = some d → y.dst ≠ some d := by
 intro d hd e
 unfold indep1 at h
 rw [hd, e] at h
 simp at h
def indep (ops : Array Oper) (x y : Oper) : Bool := indep1 ops x y && indep1 ops y x && plainOp x.op && plainOp y.op
theorem NoPanic.body {P : Program} {fn : Func} {R : Value → World → Prop} : NoPanic (bodyPostA P fn (fun e w' => ∃ v, e = .returned v ∧ R v w')) := by
 intro c a w h; exact h
theorem wpL_swap {P : Program} {ops : Array Oper} {Q : Exit → Act → World → Prop} {F : FF} (hQ : NoPanic Q) {kx ky : Nat} {x y : Oper} {r : List (Nat × Oper)} {a : Act} {w : World} (hx : memN kx F.2.1 = true) (hi : indep ops x y = true)
  (h : wpL P ops Q F ((kx, x) :: (ky, y) :: r) a w) : wpL P ops Q F ((ky, y) :: (kx, x) :: r) a w := by
 unfold indep at hi
 simp only [Bool.and_eq_true] at hi
 obtain ⟨⟨⟨h1, h2⟩, px⟩, py⟩ := hi
 have dxy := indep1_dst h1
 have dyx := indep1_dst h2
 have back : ∀ u, wpL P ops Q F ((ky, y) :: r) (a.put x.dst u) w → (∀ a' w', wpL P ops Q F r (a'.put x.dst u) w' → (∃ z, a' = a.put y.dst z ∨ ∃ ds, a' = ({ a with defers := ds } : Act).put y.dst z) → wpL P ops Q F ((kx, x) :: r) a' w') → wpL P ops Q F ((ky, y) :: (kx, x) :: r) a w := by
  intro u h k
  unfold wpL at h ⊢
  rw [indep1_wanted h1 a u] at h
  have hex : execOp (a.put x.dst u).eval y = execOp a.eval y := exec_agree py (indep1_agree h1 a u)
  split
  ·rename_i hw
   rw [if_pos hw] at h
   split
   ·rename_i hfl
    rw [if_pos hfl] at h
    obtain ⟨v, hv, h⟩ := h
    rw [hex] at hv
    refine ⟨v, hv, k _ w ?_ ⟨v, .inl rfl⟩⟩
    rw [put_comm a dxy] at h
    exact h
   ·rename_i hfl
    rw [if_neg hfl] at h
    rcases h with h | h
    rotate_left
    ·exact h.elim
    ·left
     unfold Oper.wpA at h ⊢
     rw [hex] at h
     generalize (execOp a.eval y).run P w = res at h ⊢
     cases res with
     | ok n w' =>
      cases n with
      | value z =>
       have h : (w' = w ∨ CellsX F.1 (rowB F.2.2 ky) w') ∧ wpL P ops Q F r ((a.put x.dst u).put y.dst z) w' := h
       exact ⟨h.1, k _ w' (by have := h.2; rw [put_comm a dxy] at this; exact this) ⟨z, .inl rfl⟩⟩
      | skip =>
       have h : (w' = w ∨ CellsX F.1 (rowB F.2.2 ky) w') ∧ wpL P ops Q F r ((a.put x.dst u).put y.dst undef) w' := h
       exact ⟨h.1, k _ w' (by have := h.2; rw [put_comm a dxy] at this; exact this) ⟨undef, .inl rfl⟩⟩
      | round l f tmps assign body =>
       refine RoundIn.mono h ?_
       rintro e w'' he
       cases e with
       | returned z =>
        have he : (w'' = w ∨ CellsX F.1 (rowB F.2.2 ky) w'') ∧ wpL P ops Q F r ((a.put x.dst u).put y.dst z) w'' := he
        exact ⟨he.1, k _ w'' (by have := he.2; rw [put_comm a dxy] at this; exact this) ⟨z, .inl rfl⟩⟩
       | panicked c => exact he
       | outgrown => exact he
      | enter f args =>
       refine Calls.mono h ?_
       rintro e w'' he
       cases e with
       | returned z =>
        have he : (w'' = w ∨ CellsX F.1 (rowB F.2.2 ky) w'') ∧ wpL P ops Q F r ((a.put x.dst u).put y.dst z) w'' := he
        exact ⟨he.1, k _ w'' (by have := he.2; rw [put_comm a dxy] at this; exact this) ⟨z, .inl rfl⟩⟩
       | panicked c => exact he
       | outgrown => exact he
      | _ => exact h
     | halt x' w' => exact h
  ·rename_i hw
   rw [if_neg hw] at h
   refine k _ w ?_ ⟨undef, .inl rfl⟩
   rw [put_comm a dxy] at h
   exact h
 have wx : ∀ a', (∃ z, a' = a.put y.dst z ∨ ∃ ds, a' = ({ a with defers := ds } : Act).put y.dst z) → Region.wanted x (yielded ops a'.tmps) = Region.wanted x (yielded ops a.tmps) ∧ execOp a'.eval x = execOp a.eval x := by
  rintro a' ⟨z, rfl | ⟨ds, rfl⟩⟩
  ·exact ⟨indep1_wanted h2 a z, exec_agree px (indep1_agree h2 a z)⟩
  ·exact ⟨indep1_wanted h2 ({ a with defers := ds } : Act) z, exec_agree px (indep1_agree h2 ({ a with defers := ds } : Act) z)⟩
 rw [wpL] at h
 split at h
 ·rename_i hw
  obtain ⟨v, hv, h⟩ := h
  refine back v h (fun a' w' hk ha' => ?_)
  rw [wpL, (wx a' ha').1, if_pos hw, if_pos hx, (wx a' ha').2]
  exact ⟨v, hv, hk⟩
 ·rename_i hw
  refine back undef h (fun a' w' hk ha' => ?_)
  rw [wpL, (wx a' ha').1, if_neg hw]
  exact hk
theorem wpL_front {P : Program} {ops : Array Oper} {Q : Exit → Act → World → Prop} {F : FF} (hQ : NoPanic Q) {ky : Nat} {y : Oper} {r : List (Nat × Oper)} {w : World} :
  ∀ (pre : List (Nat × Oper)) (a : Act), (∀ x ∈ pre, memN x.1 F.2.1 = true ∧ indep ops x.2 y = true) → wpL P ops Q F (pre ++ (ky, y) :: r) a w → wpL P ops Q F ((ky, y) :: (pre ++ r)) a w := by
 intro pre
 induction pre with
 | nil => intro a _ h; exact h
 | cons x pre ih =>
  intro a hp h
  obtain ⟨kx, x⟩ := x
  have hx := hp (kx, x) (List.mem_cons_self ..)
  refine wpL_swap hQ hx.1 hx.2 ?_
  have hp' : ∀ z ∈ pre, memN z.1 F.2.1 = true ∧ indep ops z.2 y = true := fun z hz => hp z (List.mem_cons_of_mem _ hz)
  rw [List.cons_append, wpL] at h
  rw [wpL]
  split
  ·rename_i hw
   rw [if_pos hw, if_pos hx.1] at h
   rw [if_pos hx.1]
   obtain ⟨v, hv, h⟩ := h
   exact ⟨v, hv, ih _ hp' h⟩
  ·rename_i hw
   rw [if_neg hw] at h
   exact ih _ hp' h
def opl (ops : Array Oper) (L : List Nat) : List (Nat × Oper) := L.map fun i => (i, ops.getD i default)
theorem CellsX.k {x : Nat} {b : List Nat} {w : World} (hx : memN x b = false) : ∀ {l : List (Nat × Addr × Value)}, CellsX l b w → CellsK l x w
 | [], _ => trivial
 | (y, a, v) :: r, h => by
  unfold CellsX at h
  cases hy : memN y b
  ·rw [hy] at h
   exact ⟨fun _ => h.1, CellsX.k hx h.2⟩
  ·rw [hy] at h
   refine ⟨fun e => ?_, CellsX.k hx h⟩
   have := Nat.eq_of_beq_eq_true e
   subst this; rw [hx] at hy; cases hy
def dirs (ops : Array Oper) (i : Nat) : List Nat := match ops[i]? with
 | some o => o.after.toList.filterMap fun e => bif Region.binds .any e then some e.on else none
 | none => []
def chkB (ops : Array Oper) (B : List (List Nat)) : Nat → Bool
 | 0 => true
 | i + 1 => chkB ops B i && (dirs ops i).all (fun j => Nat.blt j i) && (rowB B i).all (fun x => memN x (dirs ops i) || (dirs ops i).any (fun j => memN x (rowB B j)))
theorem chkB_at {ops : Array Oper} {B : List (List Nat)} : ∀ {n : Nat}, chkB ops B n = true → ∀ i, i < n → (∀ j ∈ dirs ops i, j < i) ∧ ∀ x ∈ rowB B i, x ∈ dirs ops i ∨ ∃ j, j ∈ dirs ops i ∧ x ∈ rowB B j
 | 0, _, i, hi => absurd hi (by omega)
 | n + 1, h, i, hi => by
  simp only [chkB, Bool.and_eq_true, List.all_eq_true] at h
  by_cases e : i = n
  ·subst e
   refine ⟨fun j hj => blt_lt (h.1.2 j hj), fun x hx => ?_⟩
   have := h.2 x hx
   rw [Bool.or_eq_true, List.any_eq_true] at this
   rcases this with h | ⟨j, hj, h⟩
   ·exact .inl (memN_iff.1 h)
   ·exact .inr ⟨j, hj, memN_iff.1 h⟩
  ·exact chkB_at h.1.1 i (by omega)
theorem closed {ops : Array Oper} {B : List (List Nat)} (hB : chkB ops B ops.size = true) {listed : Array Bool} (hdn : ∀ k, k < ops.size → listed[k]? = some true → ∀ j ∈ dirs ops k, listed[j]? = some true) :
  ∀ i, i < ops.size → (∀ j ∈ dirs ops i, listed[j]? = some true) → ∀ x ∈ rowB B i, listed[x]? = some true := by
 intro i
 induction i using Nat.strongRecOn with
 | _ i ih =>
  intro hi hd x hx
  obtain ⟨hlt, hb⟩ := chkB_at hB i hi
  rcases hb x hx with h | ⟨j, hj, h⟩
  ·exact hd x h
  ·have hji := hlt j hj
   exact ih j hji (by omega) (hdn j (by omega) (hd j hj)) x h
def relB (ops : Array Oper) (fl : List Nat) (B : List (List Nat)) (x i : Nat) : Bool := memN x (rowB B i) || (memN x fl && indep ops (ops.getD x default) (ops.getD i default)) || (!memN x fl && !memN i fl)
def PairL (ops : Array Oper) (fl : List Nat) (B : List (List Nat)) : List Nat → Prop
 | [] => True
 | x :: r => (∀ i ∈ r, relB ops fl B x i = true ∨ (memN x fl = false ∧ ∃ y ∈ r, memN y fl = false ∧ y ∈ rowB B i)) ∧ PairL ops fl B r
def pairB (ops : Array Oper) (fl : List Nat) (B : List (List Nat)) : List Nat → Bool
 | [] => true
 | x :: r => r.all (fun i => relB ops fl B x i || (!memN x fl && r.any (fun y => !memN y fl && memN y (rowB B i)))) && pairB ops fl B r
theorem pairB_P {ops : Array Oper} {fl : List Nat} {B : List (List Nat)} : ∀ {L : List Nat}, pairB ops fl B L = true → PairL ops fl B L
 | [], _ => trivial
 | x :: r, h => by
  simp only [pairB, Bool.and_eq_true, List.all_eq_true] at h
  refine ⟨fun i hi => ?_, pairB_P h.2⟩
  have := h.1 i hi
  rw [Bool.or_eq_true] at this
  rcases this with h | h
  ·exact .inl h
  ·rw [Bool.and_eq_true, Bool.not_eq_true', List.any_eq_true] at h
   obtain ⟨h1, y, hy, h2⟩ := h
   rw [Bool.and_eq_true, Bool.not_eq_true'] at h2
   exact .inr ⟨h1, y, hy, h2.1, memN_iff.1 h2.2⟩
theorem PairL.get {ops : Array Oper} {fl : List Nat} {B : List (List Nat)} {i : Nat} {post : List Nat} : ∀ {pre : List Nat}, PairL ops fl B (pre ++ i :: post) → ∀ x ∈ pre, relB ops fl B x i = true ∨ (memN x fl = false ∧ ∃ y ∈ pre ++ i :: post, memN y fl = false ∧ y ∈ rowB B i)
 | [], _, x, hx => by cases hx
 | z :: pre, h, x, hx => by
  rcases List.mem_cons.1 hx with rfl | hx
  ·rcases h.1 i (by simp) with h | ⟨h1, y, hy, h2⟩
   ·exact .inl h
   ·exact .inr ⟨h1, y, List.mem_cons_of_mem _ hy, h2⟩
  ·rcases PairL.get h.2 x hx with h | ⟨h1, y, hy, h2⟩
   ·exact .inl h
   ·exact .inr ⟨h1, y, List.mem_cons_of_mem _ hy, h2⟩
theorem PairL.rem {ops : Array Oper} {fl : List Nat} {B : List (List Nat)} {i : Nat} {post : List Nat} : ∀ {pre : List Nat}, (memN i fl = true ∨ ∀ x ∈ pre, memN x fl = true) → PairL ops fl B (pre ++ i :: post) → PairL ops fl B (pre ++ post)
 | [], _, h => h.2
 | z :: pre, hc, h => by
  refine ⟨fun k hk => ?_, PairL.rem (hc.imp id fun h x hx => h x (List.mem_cons_of_mem _ hx)) h.2⟩
  rcases h.1 k (by
   rcases List.mem_append.1 hk with hk | hk
   ·exact List.mem_append_left _ hk
   ·exact List.mem_append_right _ (List.mem_cons_of_mem _ hk)) with h | ⟨h1, y, hy, h2, h3⟩
  ·exact .inl h
  ·refine .inr ⟨h1, y, ?_, h2, h3⟩
   rcases List.mem_append.1 hy with hy | hy
   ·exact List.mem_append_left _ hy
   ·rcases List.mem_cons.1 hy with rfl | hy
    ·exfalso
     rcases hc with hc | hc
     ·rw [h2] at hc; cases hc
     ·rw [hc z (List.mem_cons_self ..)] at h1; cases h1
    ·exact List.mem_append_right _ hy
def nodupB : List Nat → Bool
 | [] => true
 | x :: r => !memN x r && nodupB r
theorem nodupB_P : ∀ {L : List Nat}, nodupB L = true → L.Nodup
 | [], _ => List.nodup_nil
 | x :: r, h => by
  simp only [nodupB, Bool.and_eq_true, Bool.not_eq_true'] at h
  refine List.nodup_cons.2 ⟨fun hx => ?_, nodupB_P h.2⟩
  rw [memN_iff.2 hx] at h
  cases h.1
def projF (fl : List Nat) (L : List Nat) : List Nat := L.filter fun i => !memN i fl
def covB (B : List (List Nat)) : Nat → List (List Nat) → Bool
 | 0, Ps => !Ps.isEmpty
 | n + 1, Ps => match Ps with
  | [] => false
  | P :: _ => P.all fun i => P.any (fun x => memN x (rowB B i)) || covB B n ((Ps.filter fun Q => Q.head? == some i).map List.tail)
theorem covB_ne {B : List (List Nat)} {n : Nat} {Ps : List (List Nat)} (h : covB B n Ps = true) : Ps ≠ [] := by
 rintro rfl
 cases n <;> simp [covB] at h
def lstOK (ops : Array Oper) (fl : List Nat) (B : List (List Nat)) (L : List Nat) : Bool :=
 pairB ops fl B L && nodupB L && Nat.beq L.length ops.size && L.all (fun i => Nat.blt i ops.size) && (List.range ops.size).all (fun i => memN i L)
def drawOK (ops : Array Oper) (fl : List Nat) (Ls : List (List Nat)) (B : List (List Nat)) : Bool :=
 chkB ops B ops.size && Ls.all (lstOK ops fl B) && covB B ops.size (Ls.map (projF fl))
def remI (i : Nat) (L : List Nat) : List Nat := L.filter fun k => !Nat.beq k i
theorem remI_mid {i : Nat} {pre post : List Nat} (hn : (pre ++ i :: post).Nodup) : remI i (pre ++ i :: post) = pre ++ post := by
 have h := List.nodup_append.1 hn
 have h2 := List.nodup_cons.1 h.2.1
 have key : ∀ l : List Nat, i ∉ l → remI i l = l := fun l hl => by
  unfold remI
  rw [List.filter_eq_self]
  intro k hk
  cases hb : Nat.beq k i
  ·rfl
  ·have := Nat.eq_of_beq_eq_true hb; subst this; exact absurd hk hl
 have h1 : i ∉ pre := fun hi => h.2.2 i hi i (List.mem_cons_self ..) rfl
 unfold remI at key ⊢
 rw [List.filter_append, List.filter_cons, key pre h1, key post h2.1]
 simp
theorem minL : ∀ {L : List Nat}, L ≠ [] → ∃ i, i ∈ L ∧ ∀ j ∈ L, i ≤ j
 | [x], _ => ⟨x, by simp, by simp⟩
 | x :: y :: r, _ => by
  obtain ⟨i, hi, hm⟩ := minL (L := y :: r) (by simp)
  by_cases h : x ≤ i
  ·exact ⟨x, by simp, fun j hj => by rcases List.mem_cons.1 hj with rfl | hj; exact Nat.le_refl _; exact Nat.le_trans h (hm j hj)⟩
  ·exact ⟨i, List.mem_cons_of_mem _ hi, fun j hj => by rcases List.mem_cons.1 hj with rfl | hj; omega; exact hm j hj⟩
theorem mem_ready {ops : Array Oper} {listed : Array Bool} {i : Nat} : i ∈ Region.ready .any ops listed ↔ i < ops.size ∧ listed.getD i true = false ∧ ∀ j ∈ dirs ops i, listed[j]? = some true := by
 unfold Region.ready
 rw [List.mem_filter, List.mem_range]
 constructor
 ·rintro ⟨hi, h⟩
  rw [Bool.and_eq_true, Bool.not_eq_true'] at h
  refine ⟨hi, h.1, fun j hj => ?_⟩
  have ho : ops[i]? = some ops[i] := Array.getElem?_eq_getElem hi
  have h2 := h.2
  rw [ho] at h2
  simp only [Option.map_some, Option.getD_some, Array.all_eq_true'] at h2
  unfold dirs at hj
  rw [ho] at hj
  obtain ⟨e, he, hb⟩ := List.mem_filterMap.1 hj
  have := h2 e (by simpa using he)
  cases hbe : Region.binds .any e
  ·rw [hbe] at hb; cases hb
  ·rw [hbe] at hb this
   simp only [cond_true, Option.some.injEq] at hb
   subst hb
   simp only [Bool.not_true, Bool.false_or, Array.getD_eq_getD_getElem?] at this
   cases hl : listed[e.on]? with
   | none => rw [hl] at this; cases this
   | some b => rw [hl] at this; simp only [Option.getD_some] at this; rw [this]
 ·rintro ⟨hi, h1, h2⟩
  refine ⟨hi, ?_⟩
  have ho : ops[i]? = some ops[i] := Array.getElem?_eq_getElem hi
  rw [Bool.and_eq_true, Bool.not_eq_true', ho]
  refine ⟨h1, ?_⟩
  simp only [Option.map_some, Option.getD_some, Array.all_eq_true']
  intro e he
  cases hbe : Region.binds .any e
  ·rfl
  ·have := h2 e.on (by
    unfold dirs
    rw [ho]
    exact List.mem_filterMap.2 ⟨e, by simpa using he, by rw [hbe]; rfl⟩)
   simp [Array.getD_eq_getD_getElem?, this]
abbrev goL (ops : Array Oper) := Region.linearise.go Region.Mode.any ops
theorem goL_step {ops : Array Oper} {fuel t : Nat} {listed : Array Bool} (hne : Region.ready .any ops listed ≠ []) : ∃ i t', i ∈ Region.ready .any ops listed ∧ goL ops (fuel + 1) t listed [] = i :: goL ops fuel t' (listed.setIfInBounds i true) [] := by
 have hlt : t % (Region.ready .any ops listed).length < (Region.ready .any ops listed).length := Nat.mod_lt _ (by
  cases h : Region.ready .any ops listed with
  | nil => exact absurd h hne
  | cons _ _ => simp)
 refine ⟨(Region.ready .any ops listed)[t % (Region.ready .any ops listed).length], t / (Region.ready .any ops listed).length, List.getElem_mem hlt, ?_⟩
 show Region.linearise.go Region.Mode.any ops (fuel + 1) t listed [] = _
 simp only [Region.linearise.go]
 change (match (Region.ready .any ops listed)[t % (Region.ready .any ops listed).length]? with
   | some i => Region.linearise.go Region.Mode.any ops fuel (t / (Region.ready .any ops listed).length) (listed.setIfInBounds i true) [i]
   | none => [].reverse) = _
 rw [List.getElem?_eq_getElem hlt]
 simp only
 rw [linearise_go_acc]
 rfl
structure Left (ops : Array Oper) (listed : Array Bool) (n : Nat) (U : List Nat) : Prop where
 len : U.length = n
 nd : U.Nodup
 mem : ∀ i, i ∈ U ↔ i < ops.size ∧ listed[i]? = some false
theorem Left.next {ops : Array Oper} {listed : Array Bool} {n : Nat} {U : List Nat} (h : Left ops listed (n + 1) U) {i : Nat} (hi : i < ops.size) (hif : listed[i]? = some false) : Left ops (listed.setIfInBounds i true) n (remI i U) := by
 obtain ⟨pre, post, rfl⟩ := List.append_of_mem ((h.mem i).2 ⟨hi, hif⟩)
 have hn2 := List.nodup_append.1 h.nd
 rw [remI_mid h.nd]
 refine ⟨by have := h.len; simp at this ⊢; omega, ?_, ?_⟩
 ·exact List.nodup_append.2 ⟨hn2.1, (List.nodup_cons.1 hn2.2.1).2, fun x hx y hy => hn2.2.2 x hx y (List.mem_cons_of_mem _ hy)⟩
 ·intro j
  rw [Array.getElem?_setIfInBounds]
  have hne : j ∈ pre ++ post → j ≠ i := by
   rintro hj rfl
   rcases List.mem_append.1 hj with hj | hj
   ·exact hn2.2.2 j hj j (List.mem_cons_self ..) rfl
   ·exact (List.nodup_cons.1 hn2.2.1).1 hj
  constructor
  ·intro hj
   have := (h.mem j).1 (by
    rcases List.mem_append.1 hj with hj | hj
    ·exact List.mem_append_left _ hj
    ·exact List.mem_append_right _ (List.mem_cons_of_mem _ hj))
   rw [if_neg (fun e => hne hj e.symm)]
   exact this
  ·rintro ⟨hj1, hj2⟩
   split at hj2
   ·split at hj2 <;> cases hj2
   ·rename_i hne
    have := (h.mem j).2 ⟨hj1, hj2⟩
    rcases List.mem_append.1 this with hj | hj
    ·exact List.mem_append_left _ hj
    ·rcases List.mem_cons.1 hj with rfl | hj
     ·exact absurd rfl hne
     ·exact List.mem_append_right _ hj
theorem Left.ready {ops : Array Oper} {B : List (List Nat)} (hB : chkB ops B ops.size = true) {listed : Array Bool} {n : Nat} {U : List Nat} (hs : listed.size = ops.size) (h : Left ops listed (n + 1) U) : Region.ready .any ops listed ≠ [] := by
 obtain ⟨i, hi, hmin⟩ := minL (L := U) (by intro e; have := h.len; rw [e] at this; simp at this)
 obtain ⟨hi1, hi2⟩ := (h.mem i).1 hi
 have : i ∈ Region.ready .any ops listed := mem_ready.2 ⟨hi1, by simp [Array.getD_eq_getD_getElem?, hi2], fun j hj => by
  have hji := (chkB_at hB i hi1).1 j hj
  cases hlj : listed[j]? with
  | none =>
   have := Array.getElem?_eq_none_iff.1 hlj
   omega
  | some b =>
   cases b
   ·have := hmin j ((h.mem j).2 ⟨by omega, hlj⟩); omega
   ·rfl⟩
 intro e
 rw [e] at this
 cases this
theorem down_next {ops : Array Oper} {listed : Array Bool} {i : Nat} (hif : listed[i]? = some false) (hi3 : ∀ j ∈ dirs ops i, listed[j]? = some true) (hdn : ∀ k, k < ops.size → listed[k]? = some true → ∀ j ∈ dirs ops k, listed[j]? = some true) :
  ∀ k, k < ops.size → (listed.setIfInBounds i true)[k]? = some true → ∀ j ∈ dirs ops k, (listed.setIfInBounds i true)[j]? = some true := by
 intro k hk1 hk2 j hj
 rw [Array.getElem?_setIfInBounds] at hk2 ⊢
 have old : listed[j]? = some true := by
  split at hk2
  ·rename_i e; subst e; exact hi3 j hj
  ·exact hdn k hk1 hk2 j hj
 split
 ·rename_i e; subst e; rw [hif] at old; cases old
 ·exact old
theorem ready_false {listed : Array Bool} {i : Nat} (h2 : listed.getD i true = false) : listed[i]? = some false := by
 rw [Array.getD_eq_getD_getElem?] at h2
 cases hl : listed[i]? with
 | none => rw [hl] at h2; cases h2
 | some b => rw [hl] at h2; simp only [Option.getD_some] at h2; rw [h2]
theorem covered {ops : Array Oper} {B : List (List Nat)} {fl : List Nat} (hB : chkB ops B ops.size = true) :
  ∀ (fuel n t : Nat) (listed : Array Bool) (U : List Nat) (Ps : List (List Nat)), listed.size = ops.size → fuel ≤ n → Left ops listed fuel U → (∀ k, k < ops.size → listed[k]? = some true → ∀ j ∈ dirs ops k, listed[j]? = some true) →
   (∀ P ∈ Ps, P.Nodup ∧ ∀ i, i ∈ P ↔ i ∈ U ∧ memN i fl = false) → covB B n Ps = true → projF fl (goL ops fuel t listed []) ∈ Ps := by
 intro fuel
 induction fuel with
 | zero =>
  intro n t listed U Ps hs hfn hU hdn hP hc
  have hU0 : U = [] := List.eq_nil_of_length_eq_zero hU.len
  subst hU0
  cases Ps with
  | nil => exact absurd rfl (covB_ne hc)
  | cons P r =>
   have hp := hP P (List.mem_cons_self ..)
   have : P = [] := by
    cases P with
    | nil => rfl
    | cons x _ => have := (hp.2 x).1 (List.mem_cons_self ..); cases this.1
   subst this
   exact List.mem_cons_self ..
 | succ fuel ih =>
  intro n t listed U Ps hs hfn hU hdn hP hc
  obtain ⟨i, t', hi, hgo⟩ := goL_step (fuel := fuel) (t := t) (hU.ready hB hs)
  rw [hgo]
  obtain ⟨hi1, hi2, hi3⟩ := mem_ready.1 hi
  have hif := ready_false hi2
  have hcl := closed hB hdn i hi1 hi3
  have hU' := hU.next hi1 hif
  have memU' : ∀ k, k ∈ remI i U ↔ k ∈ U ∧ k ≠ i := fun k => by
   unfold remI
   rw [List.mem_filter]
   refine and_congr_right fun _ => ⟨fun h e => by subst e; simp at h, fun h => by
    cases hb : Nat.beq k i
    ·rfl
    ·exact absurd (Nat.eq_of_beq_eq_true hb) h⟩
  have hn0 : n ≠ 0 := by omega
  obtain ⟨n, rfl⟩ : ∃ m, n = m + 1 := ⟨n - 1, by omega⟩
  cases hfi : memN i fl
  ·-- an effect
   have e1 : projF fl (i :: goL ops fuel t' (listed.setIfInBounds i true) []) = i :: projF fl (goL ops fuel t' (listed.setIfInBounds i true) []) := by
    unfold projF; rw [List.filter_cons, hfi]; rfl
   rw [e1]
   cases hPs : Ps with
   | nil => rw [hPs] at hc; exact absurd rfl (covB_ne hc)
   | cons P r =>
    rw [hPs] at hc
    simp only [covB, List.all_eq_true] at hc
    rw [← hPs] at hc ⊢
    have hp := hP P (by rw [hPs]; exact List.mem_cons_self ..)
    have hci := hc i ((hp.2 i).2 ⟨(hU.mem i).2 ⟨hi1, hif⟩, hfi⟩)
    rw [Bool.or_eq_true] at hci
    rcases hci with hci | hci
    ·exfalso
     obtain ⟨x, hx, hxb⟩ := List.any_eq_true.1 hci
     have hxm := (hU.mem x).1 ((hp.2 x).1 hx).1
     have := hcl x (memN_iff.1 hxb)
     rw [hxm.2] at this; cases this
    ·have := ih n t' (listed.setIfInBounds i true) (remI i U) _ (by simpa using hs) (by omega) hU' (down_next hif hi3 hdn) (fun Q hQ => by
      obtain ⟨P', hP', rfl⟩ := List.mem_map.1 hQ
      have hm := List.mem_filter.1 hP'
      have hh : P'.head? = some i := by simpa using hm.2
      obtain ⟨hnd, hmem⟩ := hP P' hm.1
      cases P' with
      | nil => cases hh
      | cons y tl =>
       simp only [List.head?_cons, Option.some.injEq] at hh
       subst hh
       have h2 := List.nodup_cons.1 hnd
       refine ⟨h2.2, fun k => ?_⟩
       simp only [List.tail_cons]
       rw [memU']
       constructor
       ·intro hk
        have := (hmem k).1 (List.mem_cons_of_mem _ hk)
        exact ⟨⟨this.1, fun e => h2.1 (e ▸ hk)⟩, this.2⟩
       ·rintro ⟨⟨h3, h4⟩, h5⟩
        rcases List.mem_cons.1 ((hmem k).2 ⟨h3, h5⟩) with e | h
        ·exact absurd e h4
        ·exact h) hci
     obtain ⟨P', hP', he⟩ := List.mem_map.1 this
     have hm := List.mem_filter.1 hP'
     have hh : P'.head? = some i := by simpa using hm.2
     rw [← he]
     cases P' with
     | nil => cases hh
     | cons y tl =>
      simp only [List.head?_cons, Option.some.injEq] at hh
      subst hh
      exact hm.1
  ·have e1 : projF fl (i :: goL ops fuel t' (listed.setIfInBounds i true) []) = projF fl (goL ops fuel t' (listed.setIfInBounds i true) []) := by
    unfold projF; rw [List.filter_cons, hfi]; rfl
   rw [e1]
   refine ih (n + 1) t' (listed.setIfInBounds i true) (remI i U) Ps (by simpa using hs) (by omega) hU' (down_next hif hi3 hdn) (fun Q hQ => ?_) hc
   obtain ⟨hnd, hmem⟩ := hP Q hQ
   refine ⟨hnd, fun k => ?_⟩
   rw [hmem k, memU']
   constructor
   ·rintro ⟨h1, h2⟩
    exact ⟨⟨h1, fun e => by subst e; rw [hfi] at h2; cases h2⟩, h2⟩
   ·rintro ⟨⟨h1, _⟩, h2⟩
    exact ⟨h1, h2⟩
theorem lin_of {P : Program} {ops : Array Oper} {Q : Exit → Act → World → Prop} {F : FF} (hQ : NoPanic Q) (hB : chkB ops F.2.2 ops.size = true) :
  ∀ (fuel t : Nat) (listed : Array Bool) (L : List Nat) (a : Act) (w : World), (∀ x, x < ops.size → listed[x]? = some false → CellsK F.1 x w) → listed.size = ops.size → Left ops listed fuel L →
   (∀ k, k < ops.size → listed[k]? = some true → ∀ j ∈ dirs ops k, listed[j]? = some true) → PairL ops F.2.1 F.2.2 L → projF F.2.1 L = projF F.2.1 (goL ops fuel t listed []) →
   wpL P ops Q F (opl ops L) a w → wpOpsA P ops Q (goL ops fuel t listed []) a w := by
 intro fuel
 induction fuel with
 | zero =>
  intro t listed L a w hF hs hl hdn hp hpr h
  have : L = [] := List.eq_nil_of_length_eq_zero hl.len
  subst this
  show wpOpsA P ops Q (Region.linearise.go Region.Mode.any ops 0 t listed []) a w
  simpa [Region.linearise.go, wpOpsA, opl, wpL] using h
 | succ fuel ih =>
  intro t listed L a w hF hs hl hdn hp hpr h
  obtain ⟨i, t', hi, hgo⟩ := goL_step (fuel := fuel) (t := t) (hl.ready hB hs)
  rw [hgo] at hpr ⊢
  rw [wpOpsA_cons]
  obtain ⟨hi1, hi2, hi3⟩ := mem_ready.1 hi
  have hif := ready_false hi2
  have hcl := closed hB hdn i hi1 hi3
  have hunl : ∀ x, x < ops.size → listed[x]? = some false → memN x (rowB F.2.2 i) = false := fun x _ hx => by
   cases hm' : memN x (rowB F.2.2 i)
   ·rfl
   ·have h1 := hcl x (memN_iff.1 hm'); rw [hx] at h1; cases h1
  have ho : ops[i]? = some ops[i] := Array.getElem?_eq_getElem hi1
  have hod : ops.getD i default = ops[i] := by simp [Array.getD_eq_getD_getElem?, ho]
  have hl' := hl.next hi1 hif
  obtain ⟨pre, post, rfl⟩ := List.append_of_mem ((hl.mem i).2 ⟨hi1, hif⟩)
  rw [remI_mid hl.nd] at hl'
  have hn2 := List.nodup_append.1 hl.nd
  have hpre : ∀ x ∈ pre, memN x F.2.1 = true ∧ indep ops (ops.getD x default) (ops.getD i default) = true := by
   intro x hx
   have hxm := (hl.mem x).1 (List.mem_append_left _ hx)
   have hr : relB ops F.2.1 F.2.2 x i = true := by
    rcases hp.get x hx with h | ⟨_, y, hy, _, h3⟩
    ·exact h
    ·exfalso
     have hym := (hl.mem y).1 hy
     have := hcl y h3
     rw [hym.2] at this; cases this
   unfold relB at hr
   rw [hunl x hxm.1 hxm.2, Bool.false_or, Bool.or_eq_true] at hr
   rcases hr with hr | hr
   ·rwa [Bool.and_eq_true] at hr
   ·exfalso
    simp only [Bool.and_eq_true, Bool.not_eq_true'] at hr
    have hx' : x ∈ pre.filter (fun i => !memN i F.2.1) := List.mem_filter.2 ⟨hx, by rw [hr.1]; rfl⟩
    unfold projF at hpr
    simp only [List.filter_append, List.filter_cons, hr.2, Bool.not_false, if_true] at hpr
    cases hpp : pre.filter (fun i => !memN i F.2.1) with
    | nil => rw [hpp] at hx'; cases hx'
    | cons y r =>
     rw [hpp] at hpr
     simp only [List.cons_append, List.cons.injEq] at hpr
     have hy : y ∈ pre := (List.mem_filter.1 (by rw [hpp]; exact List.mem_cons_self .. : y ∈ pre.filter (fun i => !memN i F.2.1))).1
     exact hn2.2.2 y hy i (List.mem_cons_self ..) hpr.1
  have h' : wpL P ops Q F ((i, ops.getD i default) :: (opl ops pre ++ opl ops post)) a w := by
   refine wpL_front hQ (opl ops pre) a ?_ ?_
   ·intro x hx
    obtain ⟨k, hk, rfl⟩ := List.mem_map.1 hx
    exact hpre k hk
   ·have : opl ops (pre ++ i :: post) = opl ops pre ++ (i, ops.getD i default) :: opl ops post := by simp [opl]
    rw [← this]; exact h
  rw [hod] at h'
  have hpr' : projF F.2.1 (pre ++ post) = projF F.2.1 (goL ops fuel t' (listed.setIfInBounds i true) []) := by
   unfold projF at hpr ⊢
   rw [List.filter_append, List.filter_cons] at hpr
   rw [List.filter_cons] at hpr
   rw [List.filter_append]
   cases hfi : memN i F.2.1
   ·rw [hfi] at hpr
    have hpp : pre.filter (fun i => !memN i F.2.1) = [] := by
     cases hpp : pre.filter (fun i => !memN i F.2.1) with
     | nil => rfl
     | cons y r =>
      exfalso
      rw [hpp] at hpr
      simp only [List.cons_append, Bool.not_false, if_true, List.cons.injEq] at hpr
      have hy : y ∈ pre := (List.mem_filter.1 (by rw [hpp]; exact List.mem_cons_self .. : y ∈ pre.filter (fun i => !memN i F.2.1))).1
      exact hn2.2.2 y hy i (List.mem_cons_self ..) hpr.1
    rw [hpp] at hpr ⊢
    simpa using hpr
   ·rw [hfi] at hpr
    simpa using hpr
  have step : ∀ a' w', (∀ x, x < ops.size → x ≠ i → listed[x]? = some false → CellsK F.1 x w') → wpL P ops Q F (opl ops pre ++ opl ops post) a' w' → wpOpsA P ops Q (goL ops fuel t' (listed.setIfInBounds i true) []) a' w' := by
   intro a' w' hF' hk
   refine ih t' (listed.setIfInBounds i true) (pre ++ post) a' w' ?_ (by simpa using hs) hl' (down_next hif hi3 hdn) ?_ hpr' (by simpa [opl] using hk)
   ·intro x hx hxl
    rw [Array.getElem?_setIfInBounds] at hxl
    split at hxl
    ·split at hxl <;> cases hxl
    ·rename_i hne; exact hF' x hx (fun e => hne e.symm) hxl
   ·exact hp.rem (.inr fun x hx => (hpre x hx).1)
  unfold wpOpA
  rw [ho]
  simp only
  rw [wpL] at h'
  split
  ·rename_i hw
   rw [if_pos hw] at h'
   split at h'
   ·obtain ⟨v, hv, h'⟩ := h'
    unfold Oper.wpA
    rw [hv w (hF i hi1 hif)]
    exact step _ _ (fun x hx _ hxl => hF x hx hxl) h'
   ·exact opA_mono (fun a' w' hh => step _ _ (by
     rcases hh.1 with e | hc
     ·rw [e]; exact fun x hx _ hxl => hF x hx hxl
     ·exact fun x hx _ hxl => CellsX.k (hunl x hx hxl) hc) hh.2) (h'.resolve_right id)
  ·rename_i hw
   rw [if_neg hw] at h'
   exact step _ _ (fun x hx _ hxl => hF x hx hxl) h'
theorem WC.regionD {P : Program} {id : Nat} {ops : Array Oper} {Q : Exit → Act → World → Prop} {N : Nat} {E : Env} {w : World} (F : FF) (Ls : List (List Nat)) (hm : P.follows .mixedOrders = true) (hc : drawOK ops F.2.1 Ls F.2.2 = true) (hQ : NoPanic Q)
  (h : CellsX F.1 [] w.drew ∧ ∀ L ∈ Ls, WL P ops (opl ops L) Q F 0 N E w.drew) : WC P (.region id ops true) Q N E w := by
 intro fb a ha
 unfold drawOK at hc
 simp only [Bool.and_eq_true] at hc
 obtain ⟨⟨hB, hLs⟩, hcov⟩ := hc
 refine wpA_region_draw fun t => ?_
 simp only [Region.schedule, hm, Bool.true_or, if_true]
 have hdn : ∀ k, k < ops.size → (Array.replicate ops.size false)[k]? = some true → ∀ j ∈ dirs ops k, (Array.replicate ops.size false)[j]? = some true := fun k hk h => by
  rw [Array.getElem?_replicate] at h
  split at h <;> simp at h
 have okL : ∀ L ∈ Ls, Left ops (Array.replicate ops.size false) ops.size L ∧ PairL ops F.2.1 F.2.2 L := fun L hL => by
  have hl := List.all_eq_true.1 hLs L hL
  unfold lstOK at hl
  simp only [Bool.and_eq_true] at hl
  obtain ⟨⟨⟨⟨hp, hn⟩, hl⟩, hlt⟩, hcv⟩ := hl
  refine ⟨⟨Nat.eq_of_beq_eq_true hl, nodupB_P hn, fun i => ⟨fun hi => ?_, fun hi => memN_iff.1 (List.all_eq_true.1 hcv i (List.mem_range.2 hi.1))⟩⟩, pairB_P hp⟩
  have := blt_lt (List.all_eq_true.1 hlt i hi)
  exact ⟨this, by simp [this]⟩
 have hU : ∃ L0, L0 ∈ Ls := by
  cases hE : Ls with
  | nil => rw [hE] at hcov; exact absurd rfl (covB_ne hcov)
  | cons L r => exact ⟨L, List.mem_cons_self ..⟩
 obtain ⟨L0, hL0⟩ := hU
 have hin := covered (fl := F.2.1) hB ops.size ops.size t (Array.replicate ops.size false) L0 (Ls.map (projF F.2.1)) (by simp) (Nat.le_refl _) (okL L0 hL0).1 hdn (fun Pp hPp => by
  obtain ⟨L, hL, rfl⟩ := List.mem_map.1 hPp
  have h1 := (okL L hL).1
  refine ⟨h1.nd.filter _, fun i => ?_⟩
  unfold projF
  rw [List.mem_filter, h1.mem, (okL L0 hL0).1.mem]
  simp) hcov
 obtain ⟨L, hL, he⟩ := List.mem_map.1 hin
 have h1 := okL L hL
 exact lin_of hQ hB ops.size t _ L a _ (fun x _ _ => CellsX.k rfl h.1) (by simp) h1.1 hdn h1.2 he (h.2 L hL fb a ha)
/-! ### 13. stores into a row of one's own -/
def wrsE (A : Option Addr) (i : Int) (sz : Nat) (ws : List (Nat × Value)) : List (Addr × Value) := ws.map fun p => (((adr A).add (i.toNat * sz)).add p.1, p.2)
def wrl (l : List Value) (ws : List (Nat × Value)) : List Value := ws.foldl (fun c p => c.set p.1 p.2) l
theorem wrl_mid (a b : List Value) : ∀ (ws : List (Nat × Value)) (m : List Value), (∀ p ∈ ws, p.1 < m.length) → wrl (a ++ m ++ b) (ws.map fun p => (a.length + p.1, p.2)) = a ++ wrl m ws ++ b
 | [], m, _ => rfl
 | p :: ws, m, h => by
  have hp := h p (List.mem_cons_self ..)
  simp only [wrl, List.map_cons, List.foldl_cons]
  have e : (a ++ m ++ b).set (a.length + p.1) p.2 = a ++ m.set p.1 p.2 ++ b := by
   rw [List.append_assoc, List.set_append_right _ _ (by omega), List.append_assoc]
   rw [show a.length + p.1 - a.length = p.1 from by omega, List.set_append_left _ _ hp]
  rw [e]
  exact wrl_mid a b ws (m.set p.1 p.2) (fun q hq => by simpa using h q (List.mem_cons_of_mem _ hq))
theorem addr_plain (g j : Nat) : (⟨g, 0, none⟩ : Addr).add j = ⟨g, j, none⟩ := by unfold Addr.add; split <;> simp_all
theorem wrc_size : ∀ (ws : List (Nat × Value)) (cs : Array Value), (wrc cs ws).size = cs.size
 | [], _ => rfl
 | p :: ws, cs => by
  simp only [wrc, List.foldl_cons]
  have := wrc_size ws (cs.setIfInBounds p.1 p.2)
  simp only [wrc, Array.size_setIfInBounds] at this
  exact this
theorem wrc_list : ∀ (ws : List (Nat × Value)) (cs : Array Value), (wrc cs ws).toList = wrl cs.toList ws
 | [], _ => rfl
 | p :: ws, cs => by
  simp only [wrc, wrl, List.foldl_cons]
  have := wrc_list ws (cs.setIfInBounds p.1 p.2)
  simp only [wrc, wrl, Array.toList_setIfInBounds] at this
  exact this
theorem flat_set {α : Type} (e : Enc α) (xs : List α) (i : Nat) (x d : α) (hi : i < xs.length) (ws : List (Nat × Value)) (hws : ∀ p ∈ ws, p.1 < e.sz) (hx : wrl (e.enc (xs.getD i d)) ws = e.enc x) (sp : List Value) :
  wrl (xs.flatMap e.enc ++ sp) (ws.map fun p => (i * e.sz + p.1, p.2)) = (xs.set i x).flatMap e.enc ++ sp := by
 have hs : xs = xs.take i ++ xs.getD i d :: xs.drop (i + 1) := by
  rw [List.getD_eq_getElem?_getD, List.getElem?_eq_getElem hi, Option.getD_some]
  rw [List.getElem_cons_drop, List.take_append_drop]
 have hset : xs.set i x = xs.take i ++ x :: xs.drop (i + 1) := by
  rw [List.set_eq_take_append_cons_drop, if_pos hi]
 have hlen : ((xs.take i).flatMap e.enc).length = i * e.sz := by rw [flat_len, List.length_take, Nat.min_eq_left (Nat.le_of_lt hi)]
 have h0 : xs.flatMap e.enc = (xs.take i ++ xs.getD i d :: xs.drop (i + 1)).flatMap e.enc := by rw [← hs]
 have h1 : xs.flatMap e.enc ++ sp = (xs.take i).flatMap e.enc ++ e.enc (xs.getD i d) ++ ((xs.drop (i + 1)).flatMap e.enc ++ sp) := by
  rw [h0, List.flatMap_append, List.flatMap_cons]
  simp only [List.append_assoc]
 have h2 := wrl_mid ((xs.take i).flatMap e.enc) ((xs.drop (i + 1)).flatMap e.enc ++ sp) ws (e.enc (xs.getD i d)) (fun p hp => by rw [e.len]; exact hws p hp)
 rw [hlen] at h2
 rw [h1, h2, hx, hset, List.flatMap_append, List.flatMap_cons]
 simp only [List.append_assoc]
theorem WL.storeRow {α : Type} {P : Program} {ops : Array Oper} {lst : List (Nat × Oper)} {Q : Exit → Act → World → Prop} {F : FF} {N : Nat} {i : Nat} {E : Env} {S : Nat → Prop} {w0 w : World} {R L : List Own} (hS : St S w0 w R L)
  (j : Nat) {e : Enc α} {T : TypeId} {A : Option Addr} {c : Nat} {xs : List α} (hj : at_ L j = rowO T e A c xs) (ix : Int) (x d : α) (ws : List (Nat × Value))
  (h : ∀ fb, evWi P ops lst F.2.1 fb i E = some (wrsE A ix e.sz ws)) (h0 : 0 ≤ ix) (h1 : ix < (xs.length : Int)) (hb' : (ws.all fun p => Nat.blt p.1 e.sz) = true) (hx : wrl (e.enc (rdD xs ix d)) ws = e.enc x) (ks : List Nat) (hd : ∀ k, k ∈ ks → k ∉ [j]) (hn : ks.Nodup)
  (k : ∀ w1, St S w0 w1 R (rowO T e A c (xs.set ix.toNat x) :: sel L ks) → CellsA F lst i w1 ∧ WL P ops lst Q F (i + 1) N E w1) : WL P ops lst Q F i N E w := by
 have hws : ∀ p ∈ ws, p.1 < e.sz := fun p hp => blt_lt (List.all_eq_true.1 hb' p hp)
 have hlt : ix.toNat < xs.length := by omega
 have hown : (rowO T e A c xs).ok w := by have := (hS.own j).1; rw [hj] at this; exact this
 have hown' : w.ownsRow 0 T e.sz (.slice A xs.length c) xs.length (xs.flatMap e.enc) := hown
 rcases hown'.2 with ⟨_, h0'⟩ | ⟨g, cap, cur, hv, _, hg, hnc, hcm, hcs, htk⟩
 ·omega
 ·injection hv with hv _ hc
  subst hv hc
  intro fb a ha
  refine evWi_run ha (h fb) fun o he => ?_
  have hcells : cur.toList = xs.flatMap e.enc ++ cur.toList.drop (xs.length * e.sz) := by rw [← htk, List.take_append_drop]
  have he' : evW P (execOp (rho E fb) o) = some (.skip, wrs g (ws.map fun p => (ix.toNat * e.sz + p.1, p.2))) := by
   rw [he]
   congr 2
   unfold wrsE wrs
   rw [List.map_map]
   apply List.map_congr_left
   intro p _
   simp only [Function.comp, adr, Option.getD_some]
   rw [add_add, addr_plain]
  have hb : ∀ p ∈ ws.map (fun p => (ix.toNat * e.sz + p.1, p.2)), p.1 < cur.size := by
   intro p hp
   obtain ⟨q, hq, rfl⟩ := List.mem_map.1 hp
   have hq' := hws q hq
   show ix.toNat * e.sz + q.1 < cur.size
   rw [hcs]
   have : (ix.toNat + 1) * e.sz ≤ c * e.sz := Nat.mul_le_mul_right _ (by omega)
   rw [Nat.add_mul] at this
   omega
  obtain ⟨w', hr, hg', hk', hs'⟩ := evW_run _ he' hg hb
  have hfl := flat_set e xs ix.toNat x d hlt ws hws hx (cur.toList.drop (xs.length * e.sz))
  have hlist : (wrc cur (ws.map fun p => (ix.toNat * e.sz + p.1, p.2))).toList = (xs.set ix.toNat x).flatMap e.enc ++ cur.toList.drop (xs.length * e.sz) := by
   rw [← hcells] at hfl
   rw [wrc_list, hfl]
  have hok : (rowO T e (some ⟨g, 0, none⟩) c (xs.set ix.toNat x)).ok w' := by
   show w'.ownsRow 0 T e.sz (.slice (some ⟨g, 0, none⟩) (xs.set ix.toNat x).length c) (xs.set ix.toNat x).length ((xs.set ix.toNat x).flatMap e.enc)
   refine ⟨flat_len e _, .inr ⟨g, c, _, rfl, Nat.zero_le _, hg', by simpa using hnc, hcm, ?_, ?_⟩⟩
   ·rw [wrc_size, hcs]
   ·rw [hlist, ← flat_len e, List.take_left]
  have hS' : St (ownFp (some ⟨g, 0, none⟩)) w w' [] [rowO T e (some ⟨g, 0, none⟩) c (xs.set ix.toNat x)] := St.one ⟨hk'.os, hk'.tape, hk'.output, hk'.size, fun k hk hn => hk'.block k hk (fun e => hn ⟨_, rfl, e⟩), hk'.drawn⟩ hok (fun k hk => by
   obtain ⟨ad, had, rfl⟩ := hk
   injection had with had
   subst had
   exact ⟨.inl ⟨_, rfl, rfl⟩, by rw [hs']; exact (Array.getElem?_eq_some_iff.1 hg).1⟩)
  exact ⟨w', hr, k w' (hS.call hS' [j] ks (fun k hk => ⟨j, by simp, by rw [hj]; exact hk⟩) hd hn)⟩
theorem forallN {p : List Nat → Prop} : ∀ x ∈ ([] : List (List Nat)), p x := fun _ h => by cases h
theorem forallC {p : List Nat → Prop} {L : List Nat} {r : List (List Nat)} (h : p L) (k : ∀ x ∈ r, p x) : ∀ x ∈ L :: r, p x := fun x hx => by
 rcases List.mem_cons.1 hx with rfl | hx
 ·exact h
 ·exact k x hx
end Gw
namespace Gw
open Go Go.RowKit Go.Deep
/-! ### opening what the statement gives -/
theorem cell_lt {w : World} {a : Addr} {v : Value} (h : w.cell? a = some v) : a.block < w.heap.size := by
 unfold World.cell? at h
 split at h
 ·rename_i c e f hh
  exact (Array.getElem?_eq_some_iff.1 hh).1
 ·cases h
structure Opens {α : Type} (P : Program) (t : TypeId) (e : Enc α) (ok : α → Prop) : Prop where
 sz : P.cellsOf t = e.sz
 pos : 0 < e.sz
 get : ∀ {H : Type} {enc : TypeId × Value → H} {w : World} {base : Nat} {spare : Nat → Bool} {held : Bool} {fuel : Nat} {cs : List Value} {x : DataW H × List MemPlace},
  DataW.trod enc P w base spare held fuel t cs = some x → ∃ a, cs = e.enc a ∧ ok a
def ok64 (n : Int) : Prop := -9223372036854775808 ≤ n ∧ n ≤ 9223372036854775807
theorem opn_int {H : Type} {enc : TypeId × Value → H} {P : Program} {w : World} {base : Nat} {spare : Nat → Bool} {held : Bool} {fuel : Nat} {t : TypeId} {kd : IntKind} {cs : List Value} {x : DataW H × List MemPlace} (ht : P.underlying t = some (.int kd))
  (h : DataW.trod enc P w base spare held fuel t cs = some x) : ∃ n, cs = [.int kd n] ∧ (Lit.int kd n).wf = true := by
 cases fuel with
 | zero => simp [DataW.trod] at h
 | succ n =>
  unfold DataW.trod at h
  rw [ht] at h
  split at h <;> simp_all
theorem wf64 {n : Int} (h : (Lit.int .i64 n).wf = true) : ok64 n := by simpa [Lit.wf, IntKind.min, IntKind.max, IntKind.signed, IntKind.bits, ok64] using h
theorem list_of {α : Type} {p : Nat → α → Prop} : ∀ n, (∀ i, i < n → ∃ a, p i a) → ∃ xs : List α, xs.length = n ∧ ∀ (i : Nat) (a : α), xs[i]? = some a → p i a
 | 0, _ => ⟨[], rfl, fun i a h => by simp at h⟩
 | n + 1, h => by
  obtain ⟨xs, h1, h2⟩ := list_of n fun i hi => h i (Nat.lt_succ_of_lt hi)
  obtain ⟨a, ha⟩ := h n (Nat.lt_succ_self n)
  refine ⟨xs ++ [a], by simp [h1], fun i b hb => ?_⟩
  by_cases hi : i < xs.length
  ·rw [List.getElem?_append_left hi] at hb; exact h2 i b hb
  ·have hl := (List.getElem?_eq_some_iff.1 hb).1
   simp at hl
   have : i = xs.length := by omega
   subst this
   rw [List.getElem?_append_right (Nat.le_refl _)] at hb
   simp at hb; subst hb; rw [h1]; exact ha
theorem opn_row {α : Type} {e : Enc α} {ok : α → Prop} {H : Type} {enc : TypeId × Value → H} {P : Program} {w : World} {base : Nat} {spare : Nat → Bool} {held : Bool} {fuel : Nat} {t et : TypeId} {cs : List Value} {x : DataW H × List MemPlace}
  (ht : P.underlying t = some (.slice et)) (O : Opens P et e ok) (h : DataW.trod enc P w base spare held fuel t cs = some x) :
  ∃ A c xs, cs = [.slice A xs.length c] ∧ RO NoS w (rowR e A c xs) ∧ (∀ a ∈ xs, ok a) ∧ xs.length ≤ maxLen := by
 rcases open_slice ht h with ⟨rfl, _⟩ | ⟨a, len, cap, m, n, D, Pl, rfl, hb, hl, hm, hmm, rfl, hx⟩
 ·exact ⟨none, 0, [], rfl, RO.nilR _ _ _, fun a h => (by simp at h), Nat.zero_le _⟩
 ·have hlm : len ≤ m := by rw [hmm]; split <;> omega
  obtain ⟨xs, h1, h2⟩ := list_of (p := fun i a' => w.cells? base (a.add (i * P.cellsOf et)) (P.cellsOf et) = some (e.enc a') ∧ ok a') len (fun i hi => by
   obtain ⟨cs', h3, h4⟩ := hx i (by omega)
   obtain ⟨a', rfl, h5⟩ := O.get h4
   exact ⟨a', h3, h5⟩)
  subst h1
  have hcell : ∀ j x, xs[j]? = some x → ∀ k v, (e.enc x)[k]? = some v → w.cell? ((a.add (j * e.sz)).add k) = some v := fun j x hj k v hv => by
   obtain ⟨h3, _⟩ := h2 j x hj
   obtain ⟨_, h4, h5⟩ := World.cells?_some h3
   have hk := (List.getElem?_eq_some_iff.1 hv).1
   rw [← O.sz, h5 k (by rw [← h4]; exact hk)]; exact hv
  refine ⟨some a, cap, xs, rfl, ⟨⟨fun j x hj => ⟨rfl, hcell j x hj⟩, hl⟩, fun g hg => ⟨?_, id⟩⟩, fun b hb => ?_, Nat.le_trans hl hm⟩
  ·obtain ⟨hne, rfl⟩ := hg
   cases xs with
   | nil => exact absurd rfl hne
   | cons y ys =>
    have hp : 0 < (e.enc y).length := by rw [e.len]; exact O.pos
    have := cell_lt (hcell 0 y rfl 0 _ (List.getElem?_eq_getElem hp))
    simpa [adr, adr_add_block] using this
  ·obtain ⟨i, hi⟩ := List.mem_iff_getElem?.1 hb
   exact (h2 i b hi).2
theorem opn_fields {H : Type} {enc : TypeId × Value → H} {P : Program} {w : World} {base : Nat} {spare : Nat → Bool} {held : Bool} {fuel : Nat} {t : TypeId} {fs : Array Field} {cs : List Value} {x : DataW H × List MemPlace} (ht : P.underlying t = some (.struct fs))
  (h : DataW.trod enc P w base spare held fuel t cs = some x) : cs.length = P.cellsOf t ∧ ∃ n, ∀ (i : Nat) (f : Field) (z : Nat), fs[i]? = some f → P.cellsOf f.type = z → ∃ y, DataW.trod enc P w base spare held n f.type ((cs.drop f.offset).take z) = some y := by
 obtain ⟨xs, n, _, _, hl, hx, hi⟩ := DataW.trod_struct ht h
 refine ⟨hl, n, fun i f z hf hz => ?_⟩
 subst hz
 have := hi i f hf
 have hlt := (Array.getElem?_eq_some_iff.1 hf).1
 rw [this]
 exact ⟨_, List.getElem?_eq_getElem (by rw [hx]; exact hlt)⟩
theorem cons_of {α : Type} {l : List α} {n : Nat} (h : l.length = n + 1) : ∃ a r, l = a :: r ∧ r.length = n := by
 cases l with
 | nil => simp at h
 | cons a r => exact ⟨a, r, rfl, by simpa using h⟩
/-! ### maps -/
open Go.MapKept
def vI (q : IntKind) : Int → Value := fun x => .int q x
def vB : Bool → Value := fun b => .bool b
def ents {κ ν : Type} (kE : κ → Value) (vE : ν → Value) : Nat → List (κ × ν) → List MapEntry
 | _, [] => []
 | i, p :: r => { key := kE p.1, val := vE p.2, born := i } :: ents kE vE (i + 1) r
def mfind {κ ν : Type} [DecidableEq κ] (x : κ) : Nat → List (κ × ν) → Option (Nat × ν)
 | _, [] => none
 | i, p :: r => if x = p.1 then some (i, p.2) else mfind x (i + 1) r
def mget {κ ν : Type} [DecidableEq κ] (x : κ) (z : ν) : List (κ × ν) → ν
 | [] => z
 | p :: r => if x = p.1 then p.2 else mget x z r
def mhas {κ ν : Type} [DecidableEq κ] (x : κ) : List (κ × ν) → Bool
 | [] => false
 | p :: r => if x = p.1 then true else mhas x r
def mput {κ ν : Type} [DecidableEq κ] (x : κ) (v : ν) : List (κ × ν) → List (κ × ν)
 | [] => [(x, v)]
 | p :: r => if x = p.1 then (x, v) :: r else p :: mput x v r
def mapObj {κ ν : Type} (kE : κ → Value) (vE : ν → Value) (l : List (κ × ν)) : Obj := .map (ents kE vE 0 l).toArray l.length
structure KeyK (P : Program) (kT : TypeId) {κ : Type} [DecidableEq κ] (kE : κ → Value) : Prop where
 check : ∀ (em : Bool) (w : World) (x : κ), (Instr.checkKey em 10000 kT (kE x)).run P w = .ok () w
 find : ∀ {ν : Type} (vE : ν → Value) (w : World) (x : κ) (l : List (κ × ν)) (b : Nat), (Instr.findKey kT (kE x) (ents kE vE b l)).run P w = .ok ((mfind x 0 l).map fun p => (p.1, vE p.2)) w
 stays : ∀ (w : World) (x : κ), (Instr.keyThatStays (kE x) (kE x)).run P w = .ok (kE x) w
theorem mfind_get {κ ν : Type} [DecidableEq κ] (x : κ) (z : ν) : ∀ (l : List (κ × ν)) (i : Nat), (match mfind x i l with
  | some p => (p.2, true)
  | none => (z, false)) = (mget x z l, mhas x l)
 | [], i => rfl
 | p :: r, i => by
  unfold mfind mget mhas
  by_cases h : x = p.1
  ·rw [if_pos h, if_pos h, if_pos h]
  ·rw [if_neg h, if_neg h, if_neg h]; exact mfind_get x z r (i + 1)
theorem mput_ents {κ ν : Type} [DecidableEq κ] (kE : κ → Value) (vE : ν → Value) (x : κ) (v : ν) : ∀ (l : List (κ × ν)) (b i : Nat), match mfind x i l with
  | none => ents kE vE b (mput x v l) = ents kE vE b l ++ [{ key := kE x, val := vE v, born := b + l.length }] ∧ (mput x v l).length = l.length + 1
  | some p => ∃ j, p.1 = i + j ∧ (∃ e : MapEntry, (ents kE vE b l)[j]? = some e ∧ e.key = kE x ∧ ents kE vE b (mput x v l) = (ents kE vE b l).set j { e with key := kE x, val := vE v }) ∧ (mput x v l).length = l.length
 | [], b, i => by simp [mfind, mput, ents]
 | p :: r, b, i => by
  unfold mfind mput
  by_cases h : x = p.1
  ·rw [if_pos h, if_pos h]
   refine ⟨0, rfl, ⟨{ key := kE p.1, val := vE p.2, born := b }, rfl, by rw [h], ?_⟩, rfl⟩
   simp [ents]
  ·rw [if_neg h, if_neg h]
   have := mput_ents kE vE x v r (b + 1) (i + 1)
   cases hm : mfind x (i + 1) r with
   | none =>
    rw [hm] at this
    simp only at this ⊢
    refine ⟨?_, by simp [this.2]⟩
    simp only [ents, this.1, List.cons_append, List.length_cons]
    rw [show b + 1 + r.length = b + (r.length + 1) by omega]
   | some q =>
    rw [hm] at this
    simp only at this ⊢
    obtain ⟨j, hj, ⟨e, he, hk, hs⟩, hl⟩ := this
    exact ⟨j + 1, by omega, ⟨e, by simpa [ents] using he, hk, by simp [ents, hs]⟩, by simp [hl]⟩
theorem lookup_run {κ ν : Type} [DecidableEq κ] {P : Program} {kT eT t : TypeId} {kE : κ → Value} {vE : ν → Value} (K : KeyK P kT kE) (ht : P.underlying t = some (.map kT eT)) {z : ν} {w : World} (hz : (zeroValue eT).run P w = .ok (vE z) w) {g : Nat} {l : List (κ × ν)}
  (hb : w.heap[g]? = some (mapObj kE vE l)) (x : κ) (c : Bool) : (Instr.lookup t (.map (some g)) (kE x) c).run P w = .ok (if c then .tuple #[vE (mget x z l), .bool (mhas x l)] else vE (mget x z l)) w := by
 have h2 := mfind_get x z l 0
 have hck := K.check
 have hfi := K.find vE w x l 0
 unfold mapObj at hb
 simp only [Instr.lookup, Sem.run_bind, run_underlying ht, Result.andThen_ok, run_getObj_map hb, Sem.run_pure, hck, hfi]
 cases hm : mfind x 0 l with
 | none =>
  rw [hm] at h2
  simp only [Prod.mk.injEq] at h2
  simp only [Option.map_none, Sem.run_bind, hz, Result.andThen_ok, Sem.run_pure, ← h2.1, ← h2.2]
 | some p =>
  rw [hm] at h2
  simp only [Prod.mk.injEq] at h2
  simp only [Option.map_some, Sem.run_pure, Result.andThen_ok, ← h2.1, ← h2.2]
  cases c <;> rfl
theorem mapUpdate_run {κ ν : Type} [DecidableEq κ] {P : Program} {kT eT t : TypeId} {kE : κ → Value} {vE : ν → Value} (K : KeyK P kT kE) (ht : P.underlying t = some (.map kT eT)) {w : World} {g : Nat} {l : List (κ × ν)}
  (hb : w.heap[g]? = some (mapObj kE vE l)) (x : κ) (v : ν) : (Instr.mapUpdate t (.map (some g)) (kE x) (vE v)).run P w = .ok () { w with heap := w.heap.setIfInBounds g (mapObj kE vE (mput x v l)) } := by
 have h2 := mput_ents kE vE x v l 0 0
 have hck := K.check
 have hfi := K.find vE w x l 0
 unfold mapObj at hb ⊢
 cases hm : mfind x 0 l with
 | none =>
  rw [hm] at h2 hfi
  simp only [Option.map_none] at hfi
  simp only [Instr.mapUpdate, Sem.run_bind, run_underlying ht, Result.andThen_ok, run_getObj_map hb, Sem.run_pure, hck, hfi, run_setObj_map _ hb]
  simp only [h2.1, h2.2]
  simp
 | some p =>
  rw [hm] at h2 hfi
  obtain ⟨j, hj, ⟨e, he, hk, hs⟩, hl⟩ := h2
  simp only [Option.map_some] at hfi
  have hpj : p.1 = j := by omega
  have hej : (ents kE vE 0 l).toArray[p.1]? = some e := by rw [hpj]; simpa using he
  simp only [Instr.mapUpdate, Sem.run_bind, run_underlying ht, Result.andThen_ok, run_getObj_map hb, Sem.run_pure, hck, hfi, hej, Option.map_some, Option.getD_some, hk, K.stays, run_setObj_map _ hb]
  simp only [hs, hl]
  congr 2
  congr 1
  congr 1
  apply Array.ext'
  rw [Array.toList_modify, Go.ChangeMaps.modify_eq_set _ _ _ _ (by rw [hpj]; exact he), hpj]
/-! keys of one number -/
theorem KeyK.int {P : Program} {kT : TypeId} {q : IntKind} (h : P.underlying kT = some (.int q)) : KeyK P kT (vI q) where
 check em w x := by
  rw [show (10000 : Nat) = 9999 + 1 from rfl, Instr.checkKey]
  simp only [Sem.run_bind, run_underlying h, Result.andThen_ok]; rfl
 find := fun {ν} vE w x l b => by
  have : ∀ (l : List (Int × ν)) (b i : Nat), Instr.findNow (.int q) (.int q x) (ents (vI q) vE b l) i = some ((mfind x i l).map fun p => (p.1, vE p.2)) := by
   intro l
   induction l with
   | nil => intro b i; rfl
   | cons p r ih =>
    intro b i
    unfold ents mfind Instr.findNow vI
    by_cases hx : x = p.1
    ·simp [Instr.sameNow, hx]
    ·have hx2 : (x == p.1) = false := by simpa using hx
     simp [Instr.sameNow, hx, hx2]; exact ih (b + 1) (i + 1)
  exact run_findKey h (this l b 0)
 stays w x := by
  have : Instr.sameBits 10000 (.int q x) (.int q x) = true := by
   rw [show (10000 : Nat) = 9999 + 1 from rfl, Instr.sameBits]; simp
  simp [Instr.keyThatStays, vI, this]
/-! keys that are structs of numbers -/
theorem checkFields {P : Program} {w : World} (em : Bool) (d : Nat) : ∀ (fs : List Field) (i : Nat) (as_ : List Int) (xs : Array Value), flatF P i fs = true → as_.length = fs.length →
  (∀ j n, as_[j]? = some n → xs[i + j]? = some (.int .i64 n)) → (forIn fs PUnit.unit (fun (f : Field) (_ : PUnit) => do
   if f.name ≠ "_" then do
    let v ← part f.type xs f.offset
    Instr.checkKey em (d + 1) f.type v
    pure (ForInStep.yield PUnit.unit)
   else pure (ForInStep.yield PUnit.unit)) : Sem PUnit).run P w = .ok PUnit.unit w
 | [], i, as_, xs, h, ha, hx => by simp
 | f :: fs, i, as_, xs, h, ha, hx => by
  unfold flatF at h
  cases as_ with
  | nil => simp at ha
  | cons a r =>
   simp only [Bool.and_eq_true, Bool.not_eq_true'] at h
   obtain ⟨⟨⟨h1, h2⟩, h3⟩, h4⟩ := h
   have ho := Nat.eq_of_beq_eq_true h2
   have hn : f.name ≠ "_" := by simpa using h1
   have hu : P.underlying f.type = some (.int .i64) := by
    split at h3
    ·assumption
    ·cases h3
   have hp := part_int (P := P) (w := w) hu xs f.offset (.int .i64 a) (by rw [ho]; exact hx 0 a rfl)
   have hc : (Instr.checkKey em (d + 1) f.type (.int .i64 a)).run P w = .ok () w := by simp [Instr.checkKey, run_underlying hu, Result.andThen]
   simp only [List.forIn_cons, Sem.run_bind, hn, ne_eq, not_false_eq_true, if_true, Result.andThen_ok, hp, hc, Sem.run_pure]
   exact checkFields em d fs (i + 1) r xs h4 (by simpa using ha) (fun j n hj => by have := hx (j + 1) n (by simpa using hj); rwa [show i + (j + 1) = i + 1 + j from by omega] at this)
theorem eqI_iff : ∀ (a b : List Int), eqI a b = true → a = b
 | [], [], _ => rfl
 | [], _ :: _, h => by simp [eqI] at h
 | _ :: _, [], h => by simp [eqI] at h
 | [a], [b], h => by simpa [eqI] using h
 | [a], b :: c :: s, h => by simp [eqI] at h
 | a :: c :: r, [b], h => by simp [eqI] at h
 | a :: c :: r, b :: d :: s, h => by
  simp only [eqI, Bool.and_eq_true, beq_iff_eq] at h
  have := eqI_iff (c :: r) (d :: s) h.2
  rw [h.1, this]
theorem eqI_self : ∀ a : List Int, eqI a a = true
 | [] => rfl
 | [a] => by simp [eqI]
 | a :: c :: r => by have := eqI_self (c :: r); simp only [eqI, Bool.and_eq_true, beq_iff_eq, true_and]; exact this
theorem asking {κ ν : Type} [DecidableEq κ] {P : Program} {kT : TypeId} {kE : κ → Value} (vE : ν → Value) (w : World) (heq : ∀ x y, (Op.equal kT (kE x) (kE y)).run P w = .ok (decide (x = y)) w) (x : κ) : ∀ (l : List (κ × ν)) (b i : Nat),
  (Instr.findAsking kT (kE x) (ents kE vE b l) i).run P w = .ok ((mfind x i l).map fun p => (p.1, vE p.2)) w
 | [], b, i => by simp [ents, Instr.findAsking, mfind]
 | p :: r, b, i => by
  unfold ents mfind Instr.findAsking
  simp only [Sem.run_bind, heq, Result.andThen_ok]
  by_cases hx : x = p.1
  ·simp [hx]
  ·simp only [hx, decide_false, Bool.false_eq_true, if_false]
   exact asking vE w heq x r (b + 1) (i + 1)
def aggI {κ : Type} (ints : κ → List Int) : κ → Value := fun x => .agg ((ints x).map (fun n => Value.int .i64 n)).toArray
theorem sameInts (n : Nat) : ∀ l : List Int, ((l.map (fun n => Value.int .i64 n)).zip (l.map (fun n => Value.int .i64 n))).all (fun (x, y) => Instr.sameBits (n + 1) x y) = true
 | [] => rfl
 | a :: r => by simp only [List.map_cons, List.zip_cons_cons, List.all_cons, Instr.sameBits, sameInts n r, beq_self_eq_true, Bool.and_self]
theorem KeyK.struct {κ : Type} [DecidableEq κ] {P : Program} {kT : TypeId} {n : Nat} (hf : flatI P kT = some n) (ints : κ → List Int) (hl : ∀ x, (ints x).length = n) (inj : ∀ x y, ints x = ints y → x = y) : KeyK P kT (aggI ints) := by
 unfold flatI at hf
 split at hf
 ·rename_i fs hu
  cases hc : (flatF P 0 fs.toList && !P.stoodInHeld kT && !(P.eqGuardType P.depth kT))
  ·rw [hc] at hf; cases hf
  ·rw [hc] at hf
   simp only [cond_true] at hf
   injection hf with hf
   simp only [Bool.and_eq_true, Bool.not_eq_true'] at hc
   obtain ⟨⟨h1, h2⟩, h3⟩ := hc
   have hfl : P.fieldsOf kT = fs := by simp [Program.fieldsOf, hu]
   have cell : ∀ (x : κ) (j : Nat) (m : Int), (ints x)[j]? = some m → ((ints x).map (fun n => Value.int .i64 n)).toArray[0 + j]? = some (.int .i64 m) := fun x j m hj => by
    rw [Nat.zero_add]; simp [hj]
   have heq : ∀ (w : World) (x y : κ), (Op.equal kT (aggI ints x) (aggI ints y)).run P w = .ok (decide (x = y)) w := by
    intro w x y
    have : eqI (ints x) (ints y) = decide (x = y) := by
     by_cases h : x = y
     ·subst h; simp [eqI_self]
     ·rw [decide_eq_false h]
      cases he : eqI (ints x) (ints y)
      ·rfl
      ·exact absurd (inj x y (eqI_iff _ _ he)) h
    unfold Op.equal Op.maxDepth aggI
    rw [run_equalIn_struct (P := P) w 9999 kT _ _ (by rw [hfl]; exact hu) h2, hfl, ← this]
    exact eqFields_ints (d := 9998) fs.toList 0 (ints x) (ints y) _ _ h1 (by rw [hl, ← hf]; simp) (by rw [hl, ← hf]; simp) (cell x) (cell y)
   refine ⟨fun em w x => ?_, fun {ν} vE w x l b => ?_, fun w x => ?_⟩
   ·unfold aggI
    rw [show (10000 : Nat) = 9999 + 1 from rfl, Instr.checkKey]
    simp only [Sem.run_bind, run_underlying hu, Result.andThen_ok]
    rw [← Array.forIn_toList]
    have := checkFields (P := P) (w := w) em 9998 fs.toList 0 (ints x) _ h1 (by rw [hl, ← hf]; simp) (cell x)
    rw [this]; rfl
   ·have hno : ∀ l : List (κ × ν), l ≠ [] → Instr.findNow (.struct fs) (aggI ints x) (ents (aggI ints) vE b l) 0 = none := by
     intro l hl
     cases l with
     | nil => exact absurd rfl hl
     | cons p r => simp [ents, Instr.findNow, Instr.sameNow, aggI]
    unfold Instr.findKey
    simp only [Sem.run_bind, run_underlying hu, Result.andThen_ok]
    cases l with
    | nil => simp [ents, Instr.findNow, mfind]
    | cons p r =>
     rw [hno _ (by simp)]
     exact asking vE w (heq w) x (p :: r) b 0
   ·have : Instr.sameBits 10000 (aggI ints x) (aggI ints x) = true := by
     unfold aggI
     rw [show (10000 : Nat) = 9999 + 1 from rfl, Instr.sameBits]
     simp only [beq_self_eq_true, Bool.true_and]
     exact sameInts 9998 (ints x)
    simp [Instr.keyThatStays, this]
 ·cases hf

/-! keys that are arrays of numbers -/
theorem KeyK.array {κ : Type} [DecidableEq κ] {P : Program} {kT : TypeId} {n : Nat} (hf : arI P kT = some n) (ints : κ → List Int) (hl : ∀ x, (ints x).length = n) (inj : ∀ x y, ints x = ints y → x = y) : KeyK P kT (aggI ints) := by
 have heq : ∀ (w : World) (x y : κ), (Op.equal kT (aggI ints x) (aggI ints y)).run P w = .ok (decide (x = y)) w := by
  intro w x y
  have : eqI (ints x) (ints y) = decide (x = y) := by
   by_cases h : x = y
   ·subst h; simp [eqI_self]
   ·rw [decide_eq_false h]
    cases he : eqI (ints x) (ints y)
    ·rfl
    ·exact absurd (inj x y (eqI_iff _ _ he)) h
  rw [← this]
  unfold aggI
  exact equal_arr hf (hl x) (hl y) (asInts_map _) (asInts_map _)
 obtain ⟨e, inf, hu, he, hi, hc, hg⟩ := arI_eq hf
 refine ⟨fun em w x => ?_, fun {ν} vE w x l b => ?_, fun w x => ?_⟩
 ·unfold aggI
  rw [show (10000 : Nat) = 9999 + 1 from rfl, Instr.checkKey]
  simp only [Sem.run_bind, run_underlying hu, Result.andThen_ok]
  simp only [Std.Legacy.Range.forIn_eq_forIn_range', Std.Legacy.Range.size, Nat.sub_zero, Nat.add_one_sub_one, Nat.div_one]
  have key : ∀ (m i : Nat), i + m ≤ n → (forIn (List.range' i m) PUnit.unit (fun (j : Nat) (_ : PUnit) => do
    let z ← Go.sizeOf e
    let v ← part e ((ints x).map (fun n => Value.int .i64 n)).toArray (j * z)
    Instr.checkKey em 9999 e v
    pure (ForInStep.yield PUnit.unit)) : Sem PUnit).run P w = .ok PUnit.unit w := by
   intro m
   induction m with
   | zero => intro i _; simp
   | succ m ih =>
    intro i hi2
    have hlt : i < (ints x).length := by rw [hl]; omega
    have hp := part_int (P := P) (w := w) he ((ints x).map (fun n => Value.int .i64 n)).toArray i (.int .i64 (ints x)[i]) (by simp [hlt])
    have hck : (Instr.checkKey em 9999 e (.int .i64 (ints x)[i])).run P w = .ok () w := by rw [show (9999 : Nat) = 9998 + 1 from rfl, Instr.checkKey]; simp [run_underlying he, Result.andThen]
    simp only [List.range'_succ, List.forIn_cons, Sem.run_bind, run_sizeOf w hi, hc, Nat.mul_one, Result.andThen_ok, hp, hck, Sem.run_pure]
    exact ih (i + 1) (by omega)
  rw [key n 0 (by omega)]; rfl
 ·have hno : ∀ l : List (κ × ν), l ≠ [] → Instr.findNow (.array n e) (aggI ints x) (ents (aggI ints) vE b l) 0 = none := by
   intro l hl
   cases l with
   | nil => exact absurd rfl hl
   | cons p r => simp [ents, Instr.findNow, Instr.sameNow, aggI]
  unfold Instr.findKey
  simp only [Sem.run_bind, run_underlying hu, Result.andThen_ok]
  cases l with
  | nil => simp [ents, Instr.findNow, mfind]
  | cons p r =>
   rw [hno _ (by simp)]
   exact asking vE w (heq w) x (p :: r) b 0
 ·have : Instr.sameBits 10000 (aggI ints x) (aggI ints x) = true := by
   unfold aggI
   rw [show (10000 : Nat) = 9999 + 1 from rfl, Instr.sameBits]
   simp only [beq_self_eq_true, Bool.true_and]
   exact sameInts 9998 (ints x)
  simp [Instr.keyThatStays, this]

/-! the operations -/
def lkOp (o : Oper) : Option (Nat × TypeId × Operand × Operand × Bool) := match o.dst with
 | some d => (match o.op with
  | .lookup t m x c => some (d, t, m, x, c)
  | _ => none)
 | none => none
theorem lkOp_eq {o : Oper} {d : Nat} {t : TypeId} {m x : Operand} {c : Bool} (h : lkOp o = some (d, t, m, x, c)) : o.dst = some d ∧ o.op = .lookup t m x c := by
 unfold lkOp at h
 split at h
 ·rename_i d' hd
  split at h
  ·rename_i t' m' x' c' hop
   injection h with h; injection h with h1 h; injection h with h2 h; injection h with h3 h; injection h with h4 h5
   subst h1 h2 h3 h4 h5
   exact ⟨hd, hop⟩
  ·cases h
 ·cases h
def evLi (P : Program) (ops : Array Oper) (lst : List (Nat × Oper)) (fl : List Nat) (N : Nat) (fb : Operand → Value) (i : Nat) (E : Env) : Option (Nat × TypeId × Value × Value × Bool) :=
 match lst.drop i with
 | (k, o) :: _ => bif wantE ops E o && !memN k fl then (match lkOp o with
  | some (d, t, m, x, c) => bif Nat.blt d N then some (d, t, rho E fb m, rho E fb x, c) else none
  | none => none) else none
 | [] => none
theorem WL.lookup {κ ν : Type} [DecidableEq κ] {P : Program} {ops : Array Oper} {lst : List (Nat × Oper)} {Q : Exit → Act → World → Prop} {F : FF} {N : Nat} {i : Nat} {E : Env} {w : World}
  {kT eT t : TypeId} {kE : κ → Value} {vE : ν → Value} {z : ν} {g : Nat} {l : List (κ × ν)} (hb : (blk g (mapObj kE vE l)).ok w) (x : κ) {d : Nat} {c : Bool} (V : Value)
  (h : ∀ fb, evLi P ops lst F.2.1 N fb i E = some (d, t, .map (some g), kE x, c)) (K : KeyK P kT kE) (ht : P.underlying t = some (.map kT eT)) (hz : ∀ w, (zeroValue eT).run P w = .ok (vE z) w)
  (hV : (if c then Value.tuple #[vE (mget x z l), .bool (mhas x l)] else vE (mget x z l)) = V)
  (k : CellsA F lst i w ∧ WL P ops lst Q F (i + 1) N ((d, V) :: E) w) : WL P ops lst Q F i N E w := by
 intro fb a ha
 have h := h fb
 unfold evLi at h
 split at h
 ·rename_i k_ o r ho
  cases hw2 : (wantE ops E o && !memN k_ F.2.1)
  ·rw [hw2] at h; cases h
  ·rw [hw2] at h
   simp only [cond_true] at h
   simp only [Bool.and_eq_true, Bool.not_eq_true'] at hw2
   obtain ⟨hw, hfl⟩ := hw2
   split at h
   ·rename_i d' t' m' x' c' hap
    obtain ⟨hdst, hop⟩ := lkOp_eq hap
    cases hb2 : (Nat.blt d' N)
    ·rw [hb2] at h; cases h
    ·rw [hb2] at h
     simp only [cond_true] at h
     injection h with h; injection h with h1 h; injection h with h2 h; injection h with h3 h; injection h with h4 h5
     subst h1 h2 h5
     have hr := lookup_run (P := P) K ht (hz w) hb x c'
     rw [ho]
     unfold wpL
     rw [if_pos (wantE_of ha hw)]
     rw [if_neg (by rw [hfl]; simp)]; left
     unfold Oper.wpA execOp
     rw [ha.ev]
     simp only [hop, Sem.run_bind, h3, h4, hr, Result.andThen_ok, Sem.run_pure, upA]
     have := k.2 fb (a.put o.dst _) (by rw [hdst]; exact ha.put (blt_lt hb2) _)
     rw [drop_cons ho] at this
     rw [hV]
     exact ⟨.inr (k.1.at ho), this⟩
   ·cases h
 ·cases h
def mpOp (o : Oper) : Option (TypeId × Operand × Operand × Operand) := match o.dst with
 | none => (match o.op with
  | .mapUpdate t m x v => some (t, m, x, v)
  | .insert t m x v => some (t, m, x, v)
  | _ => none)
 | some _ => none
theorem mpOp_eq {o : Oper} {t : TypeId} {m x v : Operand} (h : mpOp o = some (t, m, x, v)) : o.dst = none ∧ (o.op = .mapUpdate t m x v ∨ o.op = .insert t m x v) := by
 unfold mpOp at h
 split at h
 ·rename_i hd
  split at h
  ·rename_i t' m' x' v' hop
   injection h with h; injection h with h1 h; injection h with h2 h; injection h with h3 h
   subst h1 h2 h3 h
   exact ⟨hd, .inl hop⟩
  ·rename_i t' m' x' v' hop
   injection h with h; injection h with h1 h; injection h with h2 h; injection h with h3 h
   subst h1 h2 h3 h
   exact ⟨hd, .inr hop⟩
  ·cases h
 ·cases h
def evPi (P : Program) (ops : Array Oper) (lst : List (Nat × Oper)) (fl : List Nat) (fb : Operand → Value) (i : Nat) (E : Env) : Option (TypeId × Value × Value × Value) :=
 match lst.drop i with
 | (k, o) :: _ => bif wantE ops E o && !memN k fl then (match mpOp o with
  | some (t, m, x, v) => some (t, rho E fb m, rho E fb x, rho E fb v)
  | none => none) else none
 | [] => none
theorem WL.mapput {κ ν : Type} [DecidableEq κ] {P : Program} {ops : Array Oper} {lst : List (Nat × Oper)} {Q : Exit → Act → World → Prop} {F : FF} {N : Nat} {i : Nat} {E : Env} {S : Nat → Prop} {w0 w : World} {R L : List Own} (hS : St S w0 w R L)
  (j : Nat) {kT eT t : TypeId} {kE : κ → Value} {vE : ν → Value} {g : Nat} {l : List (κ × ν)} (hj : at_ L j = blk g (mapObj kE vE l)) (x : κ) (v : ν)
  (h : ∀ fb, evPi P ops lst F.2.1 fb i E = some (t, .map (some g), kE x, vE v)) (K : KeyK P kT kE) (ht : P.underlying t = some (.map kT eT)) (ks : List Nat) (hd : ∀ k, k ∈ ks → k ∉ [j]) (hn : ks.Nodup)
  (k : ∀ w1, St S w0 w1 R (blk g (mapObj kE vE (mput x v l)) :: sel L ks) → CellsA F lst i w1 ∧ WL P ops lst Q F (i + 1) N E w1) : WL P ops lst Q F i N E w := by
 intro fb a ha
 have h := h fb
 unfold evPi at h
 split at h
 ·rename_i k_ o r ho
  cases hw2 : (wantE ops E o && !memN k_ F.2.1)
  ·rw [hw2] at h; cases h
  ·rw [hw2] at h
   simp only [cond_true] at h
   simp only [Bool.and_eq_true, Bool.not_eq_true'] at hw2
   obtain ⟨hw, hfl⟩ := hw2
   split at h
   ·rename_i t' m' x' v' hap
    obtain ⟨hdst, hop⟩ := mpOp_eq hap
    injection h with h; injection h with h2 h; injection h with h3 h; injection h with h4 h5
    subst h2
    have hg : w.heap[g]? = some (mapObj kE vE l) := by have := (hS.own j).1; rw [hj] at this; exact this
    have hr := mapUpdate_run (P := P) K ht hg x v
    have hlt : g < w.heap.size := (Array.getElem?_eq_some_iff.1 hg).1
    have hs2 := heap_set (o' := mapObj kE vE (mput x v l)) hg
    have hk' : Keeps (fun k => k = g) w { w with heap := w.heap.setIfInBounds g (mapObj kE vE (mput x v l)) } := ⟨rfl, rfl, rfl, by simp, fun k _ hk => hs2.2 k hk, fun _ => Nat.le_refl _⟩
    have hS' : St (fun k => k = g) w { w with heap := w.heap.setIfInBounds g (mapObj kE vE (mput x v l)) } [] [blk g (mapObj kE vE (mput x v l))] := St.one hk' hs2.1 (fun k hk => by
     have : k = g := hk
     subst this
     exact ⟨.inl rfl, by simpa using hlt⟩)
    have hk2 := k _ (hS.call hS' [j] ks (fun k hk => ⟨j, by simp, by rw [hj]; exact hk⟩) hd hn)
    rw [ho]
    unfold wpL
    rw [if_pos (wantE_of ha hw)]
    rw [if_neg (by rw [hfl]; simp)]; left
    have hex : (execOp (rho E fb) o).run P w = .ok .skip { w with heap := w.heap.setIfInBounds g (mapObj kE vE (mput x v l)) } := by
     unfold execOp
     rcases hop with hop | hop <;> simp only [hop, Sem.run_bind, h3, h4, h5, hr, Result.andThen_ok, Sem.run_pure]
    unfold Oper.wpA
    rw [ha.ev, hex]
    simp only [upA, hdst]
    have := hk2.2 fb a ha
    rw [drop_cons ho] at this
    exact ⟨.inr (hk2.1.at ho), this⟩
   ·cases h
 ·cases h
/-! ### results that are only read: what came in, or new -/
def RoF (w w' : World) (Rs : List Own) (o : Own) : Prop := o.ok w' ∧ ∀ g, o.fp g → g < w'.heap.size ∧ (w.heap.size ≤ g ∨ ∃ i, (at_ Rs i).fp g)
theorem RoF.nil {α : Type} (w w' : World) (Rs : List Own) (e : Enc α) (A : Option Addr) (c : Nat) : RoF w w' Rs (rowR e A c []) := ⟨rowR_nil e A c, fun g h => absurd rfl h.1⟩
/-! arrays that come in -/
/-! ### make of a slice -/
theorem madeCells_rep (z : Array Value) (hz : 0 < z.size) : ∀ n : Nat, (madeCells z (n * z.size)).toList = (List.replicate n z.toList).flatten
 | 0 => by simp [madeCells]
 | n + 1 => by
  have ih := madeCells_rep z hz n
  have e : List.replicate (n + 1) z.toList = List.replicate n z.toList ++ [z.toList] := by rw [List.replicate_succ']
  rw [e, List.flatten_append, ← ih]
  unfold madeCells
  simp only [Array.toList_map, Array.toList_range, Nat.add_mul, Nat.one_mul, List.range_add, List.map_append, List.map_map]
  congr 1
  simp only [List.flatten_cons, List.flatten_nil, List.append_nil]
  apply List.ext_getElem
  ·simp
  ·intro i h1 h2
   have hi : i < z.size := by simpa using h2
   have : (n * z.size + i) % z.size = i := by rw [Nat.mul_comm, Nat.mul_add_mod, Nat.mod_eq_of_lt hi]
   simp [this, hi]
def mkOp (o : Oper) : Option (Nat × TypeId × Operand × Operand) :=
 match o.op, o.dst with
 | .makeSlice t a b, some d => some (d, t, a, b)
 | _, _ => none
theorem mkOp_eq {o : Oper} {d : Nat} {t : TypeId} {a b : Operand} (h : mkOp o = some (d, t, a, b)) : o.dst = some d ∧ o.op = .makeSlice t a b := by
 unfold mkOp at h
 split at h
 ·rename_i t' a' b' d' hop hd
  injection h with h; injection h with e1 h; injection h with e2 h; injection h with e3 e4
  subst e1 e2 e3 e4
  exact ⟨hd, hop⟩
 ·cases h
def evMk (ops : Array Oper) (lst : List (Nat × Oper)) (fl : List Nat) (N : Nat) (fb : Operand → Value) (i : Nat) (E : Env) : Option (Nat × TypeId × Value × Value) :=
 match lst.drop i with
 | (k, o) :: _ => bif wantE ops E o && !memN k fl then (match mkOp o with
  | some (d, t, a, b) => bif Nat.blt d N then some (d, t, rho E fb a, rho E fb b) else none
  | none => none) else none
 | [] => none
theorem WL.make {α : Type} {P : Program} {ops : Array Oper} {lst : List (Nat × Oper)} {Q : Exit → Act → World → Prop} {F : FF} {N : Nat} {i : Nat} {E : Env} {S : Nat → Prop} {w0 w : World} {R L : List Own} (hS : St S w0 w R L)
  {e : Enc α} {T tS : TypeId} {z : Value} {bytes : Nat} {d : Nat} (zx : α) (n : Int)
  (h : ∀ fb, evMk ops lst F.2.1 N fb i E = some (d, tS, .int .i64 n, .int .i64 n))
  (ht : P.underlying tS = some (.slice T)) (hinf : (P.info? T).map (fun i => (i.zero, i.size, i.bytes)) = some (some z, e.sz, bytes)) (hz : z.cells.toList = e.enc zx) (hpos : 0 < e.sz)
  (hn : 0 ≤ n ∧ n ≤ 100000000000) (hby : bytes ≤ 1000)
  (k : ∀ g w1, St S w0 w1 R (rowO T e (some ⟨g, 0, none⟩) n.toNat (List.replicate n.toNat zx) :: L) → CellsA F lst i w1 ∧ WL P ops lst Q F (i + 1) N ((d, .slice (some ⟨g, 0, none⟩) (List.replicate n.toNat zx).length n.toNat) :: E) w1) : WL P ops lst Q F i N E w := by
 intro fb a ha
 have h := h fb
 unfold evMk at h
 split at h
 ·rename_i k_ o r ho
  cases hw2 : (wantE ops E o && !memN k_ F.2.1)
  ·rw [hw2] at h; cases h
  ·rw [hw2] at h
   simp only [cond_true] at h
   simp only [Bool.and_eq_true, Bool.not_eq_true'] at hw2
   obtain ⟨hw, hfl⟩ := hw2
   split at h
   ·rename_i d' t' a' b' hap
    obtain ⟨hdst, hop⟩ := mkOp_eq hap
    cases hb : Nat.blt d' N
    ·rw [hb] at h; cases h
    ·rw [hb] at h
     simp only [cond_true] at h
     injection h with h; injection h with h1 h2; injection h2 with h2 h3; injection h3 with h3 h4
     subst h1 h2
     obtain ⟨inf, hi, hinf'⟩ := Option.map_eq_some_iff.1 hinf
     simp only [Prod.mk.injEq] at hinf'
     obtain ⟨hiz, his, hib⟩ := hinf'
     have hzs : z.cells.size = e.sz := by rw [← Array.length_toList, hz, e.len]
     have hr := run_make (P := P) w t' T inf z ht hi hiz .i64 .i64 n n hn.1 (Int.le_refl _) (by rw [hib]; have : (bytes : Int) * n ≤ 1000 * 100000000000 := Int.mul_le_mul (by omega) hn.2 hn.1 (by decide); omega) (by omega)
     have hcs : (madeCells z.cells (n.toNat * inf.size)).toList = (List.replicate n.toNat zx).flatMap e.enc := by
      rw [his, ← hzs, madeCells_rep _ (by omega), hz, List.flatMap_def, List.map_replicate]
     have hlen : (List.replicate n.toNat zx).length = n.toNat := List.length_replicate
     have hS1 := (hS.new (.cells (madeCells z.cells (n.toNat * inf.size)) T)).map1 0 (rowO T e (some ⟨w.heap.size, 0, none⟩) (List.replicate n.toNat zx).length (List.replicate n.toNat zx)) (fun h => rowO.ofBlk h hcs (by rw [hlen]; unfold maxLen; omega)) (fun _ h => by obtain ⟨_, h1, h2⟩ := h; injection h1 with h1; subst h1; exact h2) ((List.range L.length).map (· + 1)) (by intro k hk; simp at hk; omega) (List.Pairwise.map (· + 1) (fun a b (h : a ≠ b) => by simpa using h) List.nodup_range)
     have hsel : sel (blk w.heap.size (.cells (madeCells z.cells (n.toNat * inf.size)) T) :: L) ((List.range L.length).map (· + 1)) = L := by
      unfold sel
      rw [List.map_map]
      apply List.ext_getElem
      ·simp
      ·intro i h1 h2
       simp only [List.getElem_map, List.getElem_range, Function.comp, at_]
       clear hS1 hS k
       induction L generalizing i with
       | nil => simp at h2
       | cons o L ih =>
        cases i with
        | zero => rfl
        | succ i => exact ih i (by simpa using h2) (by simpa using h2)
     rw [hsel, hlen] at hS1
     have hk2 := k _ _ hS1
     rw [ho]
     unfold wpL
     rw [if_pos (wantE_of ha hw)]
     rw [if_neg (by rw [hfl]; simp)]; left
     have hex : (execOp (rho E fb) o).run P w = .ok (.value (.slice (some ⟨w.heap.size, 0, none⟩) n.toNat n.toNat)) (w.alloc (.cells (madeCells z.cells (n.toNat * inf.size)) T)) := by
      unfold execOp
      simp only [hop, Sem.run_bind, h3, h4, hr, Result.andThen_ok, Sem.run_pure]
     unfold Oper.wpA
     rw [ha.ev, hex]
     simp only [upA]
     have := hk2.2 fb (a.put o.dst _) (by rw [hdst]; exact ha.put (blt_lt hb) _)
     rw [drop_cons ho, hlen] at this
     exact ⟨.inr (hk2.1.at ho), this⟩
   ·cases h
 ·cases h
/-! ### one way for each number -/
def maxI (x y : Int) : Int := if y > x then y else x
def minI (x y : Int) : Int := if y < x then y else x
/-! ### rows of structs that hold slices: the headers stand beside the elements -/
abbrev HF := Nat → Option Addr × Nat
def hd1 (A : Option Addr) (c : Nat) : HF := fun _ => (A, c)
def h0 : Nat → HF := fun _ => hd1 none 0
def tagN {γ α : Type} (hs : Nat → γ) : Nat → List α → List (γ × α)
 | _, [] => []
 | i, x :: r => (hs i, x) :: tagN hs (i + 1) r
def tag {γ α : Type} (hs : Nat → γ) (l : List α) : List (γ × α) := tagN hs 0 l
theorem tagN_length {γ α : Type} (hs : Nat → γ) : ∀ (i : Nat) (l : List α), (tagN hs i l).length = l.length
 | _, [] => rfl
 | i, x :: r => by simp only [tagN, List.length_cons, tagN_length hs (i + 1) r]
theorem tag_length {γ α : Type} (hs : Nat → γ) (l : List α) : (tag hs l).length = l.length := tagN_length hs 0 l
theorem tagN_get {γ α : Type} (hs : Nat → γ) : ∀ (i : Nat) (l : List α) (j : Nat), (tagN hs i l)[j]? = (l[j]?).map fun x => (hs (i + j), x)
 | _, [], j => by simp [tagN]
 | i, x :: r, 0 => by simp [tagN]
 | i, x :: r, j + 1 => by
  simp only [tagN, List.getElem?_cons_succ, tagN_get hs (i + 1) r j]
  rw [show i + 1 + j = i + (j + 1) by omega]
theorem tag_get {γ α : Type} (hs : Nat → γ) (l : List α) (j : Nat) : (tag hs l)[j]? = (l[j]?).map fun x => (hs j, x) := by
 have := tagN_get hs 0 l j
 rwa [Nat.zero_add] at this
def updH {γ : Type} (hs : Nat → γ) (n : Nat) (h : γ) : Nat → γ := fun i => if i = n then h else hs i
theorem tag_push {γ α : Type} (hs : Nat → γ) (l : List α) (h : γ) (x : α) : tag (updH hs l.length h) (l ++ [x]) = tag hs l ++ [(h, x)] := by
 apply List.ext_getElem?
 intro j
 rw [tag_get, List.getElem?_append, List.getElem?_append, tag_length, tag_get]
 by_cases hj : j < l.length
 ·rw [if_pos hj, if_pos hj, List.getElem?_eq_getElem hj]
  simp [updH, Nat.ne_of_lt hj]
 ·rw [if_neg hj, if_neg hj]
  cases hd : j - l.length with
  | zero =>
   have : j = l.length := by omega
   subst this
   simp [updH]
  | succ n => simp
theorem rdD_tag {γ α : Type} {hs : Nat → γ} {l : List α} {i : Int} (d : α) (h0 : 0 ≤ i) (h1 : i < (l.length : Int)) : (tag hs l)[i.toNat]? = some (hs i.toNat, rdD l i d) := by
 rw [tag_get, rdD_at h0 h1]; rfl
theorem nrow_cell {γ α : Type} {e : Enc (γ × α)} {A : Option Addr} {c : Nat} {hs : Nat → γ} {l : List α} {w : World} (h : (rowR e A c (tag hs l)).ok w) {i : Int} (d : α) (h0 : 0 ≤ i) (h1 : i < (l.length : Int)) (k : Nat) {v : Value} (hv : (e.enc (hs i.toNat, rdD l i d))[k]? = some v) :
  w.cell? (((adr A).add (i.toNat * e.sz)).add k) = some v := (h.1 i.toNat _ (rdD_tag d h0 h1)).2 k v hv
theorem nrow_adr {γ α : Type} {e : Enc (γ × α)} {A : Option Addr} {c : Nat} {hs : Nat → γ} {l : List α} {w : World} (h : (rowR e A c (tag hs l)).ok w) {i : Int} (h0 : 0 ≤ i) (h1 : i < (l.length : Int)) : 0 ≤ i ∧ i < ((l.length : Nat) : Int) ∧ A = some (Gw.adr A) := by
 have := rowR.adr h (i := i) h0 (by rw [tag_length]; exact h1)
 exact ⟨h0, h1, this.2.2⟩
def nestO {α : Type} (sub : HF → α → Own) (hs : Nat → HF) (l : List α) : Own :=
  ⟨fun g => ∃ (i : Nat) (x : α), l[i]? = some x ∧ (sub (hs i) x).fp g, fun w => ∀ (i : Nat) (x : α), l[i]? = some x → (sub (hs i) x).ok w,
   fun w w' h k i x hx => (sub (hs i) x).loc w w' (fun g hg => h g ⟨i, x, hx, hg⟩) (k i x hx)⟩
theorem nestO.at {α : Type} {sub : HF → α → Own} {hs : Nat → HF} {l : List α} {w : World} (h : (nestO sub hs l).ok w) {i : Int} (d : α) (h0 : 0 ≤ i) (h1 : i < (l.length : Int)) : (sub (hs i.toNat) (rdD l i d)).ok w := h i.toNat _ (rdD_at h0 h1)
theorem nestO.ro {α : Type} {sub : HF → α → Own} {hs : Nat → HF} {l : List α} {S : Nat → Prop} {w : World} (h : RO S w (nestO sub hs l)) {i : Int} (d : α) (h0 : 0 ≤ i) (h1 : i < (l.length : Int)) : RO S w (sub (hs i.toNat) (rdD l i d)) :=
 ⟨nestO.at h.1 d h0 h1, fun g hg => h.2 g ⟨i.toNat, _, rdD_at h0 h1, hg⟩⟩
def poolO (ns : List Own) : Own :=
 ⟨fun g => ∃ i, (at_ ns i).fp g, fun w => ∀ i, (at_ ns i).ok w, fun w w' h k i => (at_ ns i).loc w w' (fun g hg => h g ⟨i, hg⟩) (k i)⟩
theorem poolO.ro {ns : List Own} {S : Nat → Prop} {w : World} (h : RO S w (poolO ns)) (i : Nat) : RO S w (at_ ns i) := ⟨h.1 i, fun g hg => h.2 g ⟨i, hg⟩⟩
theorem St.repl {S : Nat → Prop} {w0 w : World} {R L : List Own} (h : St S w0 w R L) (js : List Nat) (o' : Own) (ho : o'.ok w) (hf : ∀ g, o'.fp g → ∃ j, j ∈ js ∧ (at_ L j).fp g) (ks : List Nat) (hd : ∀ k, k ∈ ks → k ∉ js) (hn : ks.Nodup) : St S w0 w R (o' :: sel L ks) := by
 have hh := h.sub ks hn
 refine ⟨h.keep, fun i => ⟨(h.ro i).1, fun g hg => ⟨((h.ro i).2 g hg).1, fun j' hj' => ?_⟩⟩, fun i => ?_, fun i i' hii g hi hi' => ?_⟩
 ·match j' with
  | 0 => obtain ⟨j, _, hj⟩ := hf g hj'; exact ((h.ro i).2 g hg).2 j hj
  | k + 1 => exact ((hh.ro i).2 g hg).2 k hj'
 ·match i with
  | 0 => exact ⟨ho, fun g hg => by obtain ⟨j, _, hj⟩ := hf g hg; exact (h.own j).2 g hj⟩
  | i + 1 => exact hh.own i
 ·have cross : ∀ i, o'.fp g → (at_ (sel L ks) i).fp g → False := fun i hi hi' => by
   rw [at_sel] at hi'
   split at hi'
   ·rename_i k hk
    obtain ⟨j, hjm, hj⟩ := hf g hi
    exact h.sep k j (fun e => hd k (List.mem_of_getElem? hk) (e ▸ hjm)) g hi' hj
   ·exact hi'
  match i, i' with
  | 0, 0 => exact hii rfl
  | 0, i' + 1 => exact cross i' hi hi'
  | i + 1, 0 => exact cross i hi' hi
  | i + 1, i' + 1 => exact hh.sep i i' (fun e => hii (by rw [e])) g hi hi'
theorem St.emptyL {S : Nat → Prop} {w0 w : World} {R L : List Own} (h : St S w0 w R L) (o : Own) (ho : o.ok w) (hf : ∀ g, ¬ o.fp g) : St S w0 w R (o :: L) := by
 refine ⟨h.keep, fun i => ⟨(h.ro i).1, fun g hg => ⟨((h.ro i).2 g hg).1, fun j' hj' => ?_⟩⟩, fun i => ?_, fun i i' hii g hi hi' => ?_⟩
 ·match j' with
  | 0 => exact hf g hj'
  | k + 1 => exact ((h.ro i).2 g hg).2 k hj'
 ·match i with
  | 0 => exact ⟨ho, fun g hg => (hf g hg).elim⟩
  | i + 1 => exact h.own i
 ·match i, i' with
  | 0, _ => exact hf g hi
  | i + 1, 0 => exact hf g hi'
  | i + 1, i' + 1 => exact h.sep i i' (fun e => hii (by rw [e])) g hi hi'
theorem WL.appendN {γ α : Type} {P : Program} {ops : Array Oper} {lst : List (Nat × Oper)} {Q : Exit → Act → World → Prop} {F : FF} {N : Nat} {i : Nat} {E : Env} {S : Nat → Prop} {w0 w : World} {R L : List Own} (hS : St S w0 w R L)
  (j : Nat) {e : Enc (γ × α)} {T tS : TypeId} {z : Value} {bytes : Nat} {A A2 : Option Addr} {c c2 : Nat} {hs : Nat → γ} {l : List α} {hx : γ} {x : α} {d : Nat} (hj : at_ L j = rowO T e A c (tag hs l))
  (h : ∀ fb, evAi P ops lst F.2.1 N fb i E = some (d, tS, .slice A l.length c, .slice A2 1 c2)) (hs' : (rowR e A2 c2 [(hx, x)]).ok w)
  (ht : P.underlying tS = some (.slice T)) (hinf : (P.info? T).map (fun i => (i.zero, i.size, i.bytes)) = some (some z, e.sz, bytes)) (hz : z.cells.size = e.sz) (hpos : 0 < e.sz)
  (hl : l.length + 1 ≤ 100000000000) (hby : bytes ≤ 1000) (ks : List Nat) (hd : ∀ k, k ∈ ks → k ∉ [j]) (hn : ks.Nodup)
  (k : ∀ A' c' w1, St S w0 w1 R (rowO T e A' c' (tag (updH hs l.length hx) (l ++ [x])) :: sel L ks) → CellsA F lst i w1 ∧ WL P ops lst Q F (i + 1) N ((d, .slice A' (l ++ [x]).length c') :: E) w1) : WL P ops lst Q F i N E w := by
 refine WL.append hS j hj (ys := [(hx, x)]) (fun fb => by rw [h fb, tag_length]; rfl) hs' ht hinf hz hpos (by rw [tag_length]; exact hl) hby ks hd hn (fun A' c' w1 hS1 => ?_)
 have := k A' c' w1 (by rw [tag_push]; exact hS1)
 rw [List.length_append, tag_length]
 rw [List.length_append] at this
 exact this
/-! ### pointers that may be nil -/
def optM {α β : Type} (o : Option α) (f : Option β) (g : α → Option β) : Option β := match o with
 | none => f
 | some a => g a
theorem optM_some {α β : Type} {o : Option α} {f : Option β} {g : α → Option β} {r : β} (h : optM o f g = some r) : (o = none ∧ f = some r) ∨ ∃ a, o = some a ∧ g a = some r := by
 cases o with
 | none => exact .inl ⟨rfl, h⟩
 | some a => exact .inr ⟨a, rfl, h⟩
def optP {α : Type} (o : Option α) (g : Nat) : Value := match o with
 | none => .pointer none
 | some _ => .pointer (some ⟨g, 0, none⟩)
def optS {α : Type} (o : Option α) (P : Prop) (Q : α → Prop) : Prop := match o with
 | none => P
 | some a => Q a
theorem optS_none {α : Type} {o : Option α} {P : Prop} {Q : α → Prop} (e : o = none) (h : optS o P Q) : P := by subst e; exact h
theorem optS_some {α : Type} {o : Option α} {P : Prop} {Q : α → Prop} {a : α} (e : o = some a) (h : optS o P Q) : Q a := by subst e; exact h
/-! ### slices of maps: the maps' places stand beside them -/
def mapV {κ ν : Type} (x : Nat × Option (List (κ × ν))) : Value := match x.2 with
 | none => .map none
 | some _ => .map (some x.1)
def encMap (κ ν : Type) : Enc (Nat × Option (List (κ × ν))) := ⟨1, fun x => [mapV x], fun _ => rfl, fun x u h => by
 simp at h; subst h; unfold mapV; split <;> rfl⟩
def g0 : Nat → Nat := fun _ => 0
def mapsO {κ ν : Type} (kE : κ → Value) (vE : ν → Value) (hs : Nat → Nat) (l : List (Option (List (κ × ν)))) : Own :=
  ⟨fun g => ∃ i m, l[i]? = some (some m) ∧ g = hs i,
   fun w => (∀ i m, l[i]? = some (some m) → w.heap[hs i]? = some (mapObj kE vE m)) ∧ (∀ i j m m', l[i]? = some (some m) → l[j]? = some (some m') → hs i = hs j → i = j),
   fun w w' h hk => ⟨fun i m hm => (h (hs i) ⟨i, m, hm, rfl⟩).trans (hk.1 i m hm), hk.2⟩⟩
theorem mapsO.at {κ ν : Type} {kE : κ → Value} {vE : ν → Value} {hs : Nat → Nat} {l : List (Option (List (κ × ν)))} {w : World} (h : (mapsO kE vE hs l).ok w) {i : Int} (h0 : 0 ≤ i) (h1 : i < (l.length : Int)) {m : List (κ × ν)} (hm : rdD l i none = some m) : (blk (hs i.toNat) (mapObj kE vE m)).ok w := by
 have := rdD_at (d := none) h0 h1
 rw [hm] at this
 exact h.1 i.toNat m this
/-! ### scopes, labels -/
/-! ### slices of maps: literals, appending -/
theorem mapsO_nil {κ ν : Type} (kE : κ → Value) (vE : ν → Value) (hs : Nat → Nat) (S : Nat → Prop) (w : World) : RO S w (mapsO kE vE hs ([] : List (Option (List (κ × ν))))) :=
 ⟨⟨fun i m h => by simp at h, fun i j m m' h => by simp at h⟩, fun g ⟨i, m, h, _⟩ => by simp at h⟩
/-! ### maps whose values are slices of maps that are only read -/
abbrev HM := Option Addr × Nat × (Nat → Nat)
def zHM {α : Type} : HM × List α := ((none, 0, g0), [])
def unK {κ ν : Type} (kl : List (κ × (HM × ν))) : List (κ × ν) := kl.map fun p => (p.1, p.2.2)
theorem mget_unK {κ ν : Type} [DecidableEq κ] (x : κ) (h : HM) (z : ν) : ∀ kl : List (κ × (HM × ν)), (mget x (h, z) kl).2 = mget x z (unK kl)
  | [] => rfl
  | p :: r => by simp only [mget, unK, List.map_cons]; split; · rfl
                 · exact mget_unK x h z r
theorem mput_unK {κ ν : Type} [DecidableEq κ] (x : κ) (h : HM) (v : ν) : ∀ kl : List (κ × (HM × ν)), unK (mput x (h, v) kl) = mput x v (unK kl)
 | [] => rfl
 | p :: r => by
  simp only [mput, unK, List.map_cons]
  split
  ·rfl
  ·simp only [List.map_cons, List.cons.injEq, true_and]; exact mput_unK x h v r
theorem mget_mem {κ ν : Type} [DecidableEq κ] (x : κ) (z : ν) : ∀ l : List (κ × ν), mget x z l = z ∨ ∃ p ∈ l, mget x z l = p.2
 | [] => .inl rfl
 | p :: r => by
  simp only [mget]
  split
  ·exact .inr ⟨p, by simp, rfl⟩
  ·rcases mget_mem x z r with h | ⟨q, hq, h⟩
   ·exact .inl h
   ·exact .inr ⟨q, by simp [hq], h⟩
theorem mput_mem {κ ν : Type} [DecidableEq κ] (x : κ) (v : ν) : ∀ (l : List (κ × ν)) (p : κ × ν), p ∈ mput x v l → p = (x, v) ∨ p ∈ l
 | [], p, h => by simp [mput] at h; exact .inl h
 | q :: r, p, h => by
  simp only [mput] at h
  split at h
  ·rcases List.mem_cons.1 h with h | h
   ·exact .inl h
   ·exact .inr (by simp [h])
  ·rcases List.mem_cons.1 h with h | h
   ·exact .inr (by simp [h])
   ·rcases mput_mem x v r p h with h | h
    ·exact .inl h
    ·exact .inr (by simp [h])
def knestO {κ α β : Type} (kE : α → Value) (vE : β → Value) (kl : List (κ × (HM × List (Option (List (α × β)))))) (l : List (κ × List (Option (List (α × β))))) : Own :=
  ⟨fun g => ∃ p ∈ kl, (rowR (encMap α β) p.2.1.1 p.2.1.2.1 (tag p.2.1.2.2 p.2.2)).fp g ∨ (mapsO kE vE p.2.1.2.2 p.2.2).fp g,
   fun w => unK kl = l ∧ ∀ p ∈ kl, (rowR (encMap α β) p.2.1.1 p.2.1.2.1 (tag p.2.1.2.2 p.2.2)).ok w ∧ (mapsO kE vE p.2.1.2.2 p.2.2).ok w,
   fun w w' h k => ⟨k.1, fun p hp => ⟨(rowR _ _ _ _).loc w w' (fun g hg => h g ⟨p, hp, .inl hg⟩) (k.2 p hp).1, (mapsO _ _ _ _).loc w w' (fun g hg => h g ⟨p, hp, .inr hg⟩) (k.2 p hp).2⟩⟩⟩
theorem knestO.eq {κ α β : Type} {kE : α → Value} {vE : β → Value} {kl : List (κ × (HM × List (Option (List (α × β)))))} {l : List (κ × List (Option (List (α × β))))} {S : Nat → Prop} {w : World} (h : RO S w (knestO kE vE kl l)) : unK kl = l := h.1.1
theorem knestO.row {κ α β : Type} [DecidableEq κ] {kE : α → Value} {vE : β → Value} {kl : List (κ × (HM × List (Option (List (α × β)))))} {l : List (κ × List (Option (List (α × β))))} {S : Nat → Prop} {w : World} (h : RO S w (knestO kE vE kl l)) (x : κ) :
  RO S w (rowR (encMap α β) (mget x zHM kl).1.1 (mget x zHM kl).1.2.1 (tag (mget x zHM kl).1.2.2 (mget x [] l))) := by
 have e : (mget x zHM kl).2 = mget x [] l := by rw [← h.1.1]; exact mget_unK x _ _ kl
 rw [← e]
 rcases mget_mem x zHM kl with h1 | ⟨p, hp, h1⟩
 ·rw [h1]; exact ⟨rowR_nil _ _ _, fun g hg => absurd rfl hg.1⟩
 ·rw [h1]; exact ⟨(h.1.2 p hp).1, fun g hg => h.2 g ⟨p, hp, .inl hg⟩⟩
theorem knestO.maps {κ α β : Type} [DecidableEq κ] {kE : α → Value} {vE : β → Value} {kl : List (κ × (HM × List (Option (List (α × β)))))} {l : List (κ × List (Option (List (α × β))))} {S : Nat → Prop} {w : World} (h : RO S w (knestO kE vE kl l)) (x : κ) :
  RO S w (mapsO kE vE (mget x zHM kl).1.2.2 (mget x [] l)) := by
 have e : (mget x zHM kl).2 = mget x [] l := by rw [← h.1.1]; exact mget_unK x _ _ kl
 rw [← e]
 rcases mget_mem x zHM kl with h1 | ⟨p, hp, h1⟩
 ·rw [h1]; exact mapsO_nil _ _ _ _ _
 ·rw [h1]; exact ⟨(h.1.2 p hp).2, fun g hg => h.2 g ⟨p, hp, .inr hg⟩⟩
theorem knestO.put {κ α β : Type} [DecidableEq κ] {kE : α → Value} {vE : β → Value} {kl : List (κ × (HM × List (Option (List (α × β)))))} {l : List (κ × List (Option (List (α × β))))} {S : Nat → Prop} {w : World} (h : RO S w (knestO kE vE kl l)) (x : κ) {A : Option Addr} {c : Nat} {hs : Nat → Nat} {v : List (Option (List (α × β)))}
  (h1 : RO S w (rowR (encMap α β) A c (tag hs v))) (h2 : RO S w (mapsO kE vE hs v)) : RO S w (knestO kE vE (mput x ((A, c, hs), v) kl) (mput x v l)) := by
 refine ⟨⟨by rw [mput_unK, h.1.1], fun p hp => ?_⟩, fun g hg => ?_⟩
 ·rcases mput_mem x _ kl p hp with rfl | hp
  ·exact ⟨h1.1, h2.1⟩
  ·exact h.1.2 p hp
 ·obtain ⟨p, hp, hf⟩ := hg
  rcases mput_mem x _ kl p hp with rfl | hp
  ·exact hf.elim (h1.2 g) (h2.2 g)
  ·exact h.2 g ⟨p, hp, hf⟩
/-! ### ranges over functions -/
def mkLoop (st : LoopState) (pe : Option Code) (fn : FuncId) (T : Array Value) (ps : Array Tmp) (assign body : Code) (D : Nat) : Obj := .loop { state := st, pending := pe, fn, tmps := T, params := ps, assign, body, defers := D }
def loopO (pe : Option Code) (fn : FuncId) (T : Array Value) (ps : Array Tmp) (assign body : Code) (D : Nat) : Obj := mkLoop (if pe.isNone then .ready else .done) pe fn T ps assign body D
structure KnowsT (N : Nat) (E : Env) (T : Array Value) : Prop where
 size : T.size = N
 le : N ≤ MK
 get : ∀ t v, Nat.beq t MK = false → lk E t = some v → T.getD t undef = v
theorem Has.knows {N : Nat} {E : Env} {fb : Operand → Value} {a : Act} (h : Has N E fb a) : KnowsT N E a.tmps := by
 refine ⟨h.size, h.le, fun t v hm hv => ?_⟩
 have := congrFun h.ev (.tmp t)
 simpa [Act.eval, rho, hv, hm] using this
theorem KnowsT.weak {N : Nat} {E E' : Env} {T : Array Value} (h : KnowsT N E T) (hs : ∀ t v, lk E' t = some v → lk E t = some v) : KnowsT N E' T := ⟨h.size, h.le, fun t v hm hv => h.get t v hm (hs t v hv)⟩
theorem KnowsT.set {N : Nat} {E : Env} {T : Array Value} (h : KnowsT N E T) {t : Nat} (ht : t < N) (v : Value) : KnowsT N ((t, v) :: E) (T.setIfInBounds t v) := by
 refine ⟨by simp [h.size], h.le, fun t' v' hm hv => ?_⟩
 rw [getD_set _ _ _ _ (by rw [h.size]; exact ht)]
 simp only [lk] at hv
 by_cases e : t = t'
 ·subst e; simp at hv ⊢; exact hv
 ·rw [if_neg e]; rw [beq_no e] at hv; exact h.get t' v' hm hv
theorem KnowsT.sets {N : Nat} : ∀ (l : List (Tmp × Value)) {E : Env} {T : Array Value}, KnowsT N E T → (l.all fun p => Nat.blt p.1 N) = true → KnowsT N (l.reverse ++ E) (l.foldl (fun t p => t.setIfInBounds p.1 p.2) T)
 | [], E, T, h, _ => h
 | p :: l, E, T, h, hb => by
  rw [List.all_cons, Bool.and_eq_true] at hb
  rw [List.reverse_cons, List.append_assoc, List.foldl_cons]
  exact KnowsT.sets l (h.set (blt_lt hb.1) p.2) hb.2
theorem KnowsT.has {N : Nat} {E : Env} {T : Array Value} (h : KnowsT N E T) (hm : lk E MK = none) : Has N E (Act.eval { tmps := T, defers := [] }) { tmps := T, defers := [] } := by
 refine ⟨h.size, h.le, by rw [hm], funext fun x => ?_⟩
 cases x with
 | tmp t =>
  simp only [rho]
  cases hb : Nat.beq t MK
  ·simp only [cond_false]
   split
   ·rename_i v hv; exact h.get t v hb hv
   ·rfl
  ·rfl
 | const v => rfl
 | global g => rfl
 | func f => rfl
def YieldR (P : Program) (yv : Value) (args : Array Value) (w : World) (R : Value → World → Prop) : Prop :=
 ∃ l fn T assign body, yv = .func (.yield l) #[] #[] ∧ (Instr.yield l args).run P w = .ok (.round l fn T assign body) w ∧ RoundIn (FW none) 0 P l fn T assign body w (fun e w' => ∃ v, e = .returned v ∧ R v w')
def roundQ (P : Program) (l : Nat) (R : Value → World → Prop) : Exit → Act → World → Prop
 | .normal, _, w => ∃ v w', (Instr.endRound l none).run P w = .ok v w' ∧ R v w'
 | .ret, _, w => ∃ v w', (Instr.endRound l (some .ret)).run P w = .ok v w' ∧ R v w'
 | .exit id, _, w => ∃ v w', (Instr.endRound l (some (.exit id))).run P w = .ok v w' ∧ R v w'
 | .outgrown, a, _ => a = markA l
 | _, _, _ => False
def asgQ (P : Program) (l : Nat) (body : Code) (R : Value → World → Prop) : Exit → Act → World → Prop
 | .normal, a, w => ∃ w2, (Instr.beginRound l).run P w = .ok () w2 ∧ body.wpA P (roundQ P l R) a w2
 | .outgrown, a, _ => a = markA l
 | _, _, _ => False
theorem NoPanic.round {P : Program} {l : Nat} {R : Value → World → Prop} : NoPanic (roundQ P l R) := fun _ _ _ h => h
def LoopK (N : Nat) (E : Env) (ps : Array Tmp) (assign body : Code) (LO : Option Code → Obj) (LB : Obj) (LX : Option Code → Obj) : Prop :=
 ∃ fn T D, KnowsT N E T ∧ LO = (fun pe => loopO pe fn T ps assign body D) ∧ LB = mkLoop .busy none fn T ps assign body D ∧ LX = fun pe => mkLoop .exhausted pe fn T ps assign body D
theorem YieldR.of_round {P : Program} {l : Nat} {fn : FuncId} {T : Array Value} {ps : Array Tmp} {assign body : Code} {D N : Nat} {E : Env} {w : World} {R : Value → World → Prop} (hl : w.heap[l]? = some (loopO none fn T ps assign body D)) (hT : KnowsT N E T)
  (args : List Value) (E1 : Env) (hE : (ps.toList.zip args).reverse ++ E = E1) (hp : ps.size = args.length) (hb : ((ps.toList.zip args).all fun p => Nat.blt p.1 N) = true) (hm : lk E1 MK = none)
  (h : WC P assign (asgQ P l body R) N E1 w) : YieldR P (.func (.yield l) #[] #[]) args.toArray w R := by
 have hy := run_yield (P := P) (args := args.toArray) hl (by simp [hp])
 refine ⟨l, fn, _, assign, body, rfl, hy, ?_⟩
 have hz : (ps.zip args.toArray).foldl (fun tmps (p : Tmp × Value) => tmps.setIfInBounds p.1 p.2) T = (ps.toList.zip args).foldl (fun t p => t.setIfInBounds p.1 p.2) T := by
  rw [← Array.foldl_toList, Array.toList_zip]
 have hk := (KnowsT.sets _ hT hb)
 rw [hE] at hk
 have hh := h _ _ (hk.has hm)
 refine roundIn_of_wpIn (F := FW none) trivial ?_
 have e : (({ fn := fn, tmps := T, params := ps, assign := assign, body := body, defers := D, state := .ready, pending := none } : Loop).params.zip args.toArray).foldl (fun tmps (x : Tmp × Value) => match x with | (t, a) => tmps.setIfInBounds t a) T = (ps.toList.zip args).foldl (fun t p => t.setIfInBounds p.1 p.2) T := hz
 show assign.wpIn (FW (some l)) 0 P _ { tmps := (ps.zip args.toArray).foldl (fun tmps (x : Tmp × Value) => match x with | (t, a) => tmps.setIfInBounds t a) T, defers := [] } w
 rw [show (ps.zip args.toArray).foldl (fun tmps (x : Tmp × Value) => match x with | (t, a) => tmps.setIfInBounds t a) T = (ps.toList.zip args).foldl (fun t p => t.setIfInBounds p.1 p.2) T from hz]
 refine wpIn_mono (hh (some l) ⟨w, rfl⟩) (fun e a w' he => ?_)
 cases e with
 | normal =>
  obtain ⟨w2, h1, h2⟩ := he
  refine ⟨w2, h1, wpIn_mono (h2 (some l) ⟨w, rfl⟩) (fun e a w' he => ?_)⟩
  cases e with
  | normal => obtain ⟨v, w3, h3, h4⟩ := he; exact ⟨v, w3, h3, v, rfl, h4⟩
  | ret => obtain ⟨v, w3, h3, h4⟩ := he; exact ⟨v, w3, h3, v, rfl, h4⟩
  | exit id => obtain ⟨v, w3, h3, h4⟩ := he; exact ⟨v, w3, h3, v, rfl, h4⟩
  | _ => exact he.elim
 | _ => exact he.elim
theorem WX.roundN {P : Program} {l : Nat} {fn : FuncId} {T : Array Value} {ps : Array Tmp} {assign body : Code} {D N : Nat} {E : Env} {w : World} {R : Value → World → Prop} (hl : w.heap[l]? = some (mkLoop .busy none fn T ps assign body D))
  (hR : R (.bool true) (w.putObj l (loopO none fn T ps assign body D))) : WX (roundQ P l R) .normal N E w := fun fb a ha => ⟨_, _, run_endRound none hl, hR⟩
theorem WX.roundR {P : Program} {l : Nat} {fn : FuncId} {T : Array Value} {ps : Array Tmp} {assign body : Code} {D N : Nat} {E : Env} {w : World} {R : Value → World → Prop} (hl : w.heap[l]? = some (mkLoop .busy none fn T ps assign body D))
  (hR : R (.bool false) (w.putObj l (loopO (some .ret) fn T ps assign body D))) : WX (roundQ P l R) .ret N E w := fun fb a ha => ⟨_, _, run_endRound (some .ret) hl, hR⟩
theorem YieldR.of_loop {P : Program} {l : Nat} {ps : Array Tmp} {assign body : Code} {N : Nat} {E : Env} {LO LX : Option Code → Obj} {LB : Obj} {w : World} {R : Value → World → Prop} (hK : LoopK N E ps assign body LO LB LX) (hl : w.heap[l]? = some (LO none))
  (args : List Value) (ks : List Nat) (E0 E1 : Env) (h0 : pick E ks = some E0) (hE : (ps.toList.zip args).reverse ++ E0 = E1) (hp : ps.size = args.length) (hb : ((ps.toList.zip args).all fun p => Nat.blt p.1 N) = true) (hm : lk E1 MK = none)
  (h : WC P assign (asgQ P l body R) N E1 w) : YieldR P (.func (.yield l) #[] #[]) args.toArray w R := by
 obtain ⟨fn, T, D, hT, rfl, rfl, rfl⟩ := hK
 exact YieldR.of_round hl (hT.weak (pick_sub h0)) args E1 hE hp hb hm h
theorem WX.begin' {P : Program} {l : Nat} {ps : Array Tmp} {assign body : Code} {N N0 : Nat} {E E0 : Env} {LO LX : Option Code → Obj} {LB : Obj} {w : World} {R : Value → World → Prop} (hK : LoopK N0 E0 ps assign body LO LB LX) (hl : w.heap[l]? = some (LO none))
  (k : WC P body (roundQ P l R) N E (w.putObj l LB)) : WX (asgQ P l body R) .normal N E w := by
 obtain ⟨fn, T, D, hT, rfl, rfl, rfl⟩ := hK
 exact fun fb a ha => ⟨_, run_beginRound hl rfl, k fb a ha⟩
theorem WX.roundN' {P : Program} {l : Nat} {ps : Array Tmp} {assign body : Code} {N N0 : Nat} {E E0 : Env} {LO LX : Option Code → Obj} {LB : Obj} {w : World} {R : Value → World → Prop} (hK : LoopK N0 E0 ps assign body LO LB LX) (hl : w.heap[l]? = some LB)
  (hR : R (.bool true) (w.putObj l (LO none))) : WX (roundQ P l R) .normal N E w := by
 obtain ⟨fn, T, D, hT, rfl, rfl, rfl⟩ := hK
 exact WX.roundN hl hR
theorem WX.roundR' {P : Program} {l : Nat} {ps : Array Tmp} {assign body : Code} {N N0 : Nat} {E E0 : Env} {LO LX : Option Code → Obj} {LB : Obj} {w : World} {R : Value → World → Prop} (hK : LoopK N0 E0 ps assign body LO LB LX) (hl : w.heap[l]? = some LB)
  (hR : R (.bool false) (w.putObj l (LO (some .ret)))) : WX (roundQ P l R) .ret N E w := by
 obtain ⟨fn, T, D, hT, rfl, rfl, rfl⟩ := hK
 exact WX.roundR hl hR
def pendN (cs : List Code) (j : Int) : Option Code := if j = 0 then none else cs[(j - 1).toNat]?
theorem St.putO {S : Nat → Prop} {w0 w : World} {R L : List Own} (h : St S w0 w R L) (j : Nat) {g : Nat} {o : Obj} (hj : at_ L j = blk g o) (o' : Obj) (ks : List Nat) (hd : ∀ k, k ∈ ks → k ∉ [j]) (hn : ks.Nodup) : St S w0 (w.putObj g o') R (blk g o' :: sel L ks) := by
 have hg : w.heap[g]? = some o := by have := (h.own j).1; rw [hj] at this; exact this
 have hlt : g < w.heap.size := (Array.getElem?_eq_some_iff.1 hg).1
 have hS' : St (fun k => k = g) w (w.putObj g o') [] [blk g o'] := by
  refine St.one ⟨rfl, rfl, rfl, by simp [World.putObj], fun k _ hk => World.putObj_heap_other hk, fun _ => Nat.le_refl _⟩ (World.putObj_heap_same hlt) (fun k hk => ?_)
  have : k = g := hk
  subst this
  exact ⟨.inl rfl, by simpa [World.putObj] using hlt⟩
 exact h.call hS' [j] ks (fun k hk => ⟨j, by simp, by rw [hj]; exact hk⟩) hd hn
theorem St.blkAt {S : Nat → Prop} {w0 w : World} {R L : List Own} (h : St S w0 w R L) (j : Nat) {g : Nat} {o : Obj} (hj : at_ L j = blk g o) : w.heap[g]? = some o := by
 have := (h.own j).1; rw [hj] at this; exact this
def sepO (L : List Own) : Own :=
 ⟨fun g => ∃ i, (at_ L i).fp g, fun w => (∀ i, (at_ L i).ok w) ∧ ∀ i j, i ≠ j → ∀ g, (at_ L i).fp g → ¬ (at_ L j).fp g, fun w w' h k => ⟨fun i => (at_ L i).loc w w' (fun g hg => h g ⟨i, hg⟩) (k.1 i), k.2⟩⟩
theorem fpL_one (o : Own) : fpL [o] = o.fp := funext fun g => propext ⟨fun ⟨i, hi⟩ => by
 cases i with
 | zero => exact hi
 | succ i => exact (show False from hi).elim, fun h => ⟨0, h⟩⟩
theorem fpL_sep (L : List Own) : fpL [sepO L] = fpL L := fpL_one _
theorem IoOK.openSep {w : World} {L : List Own} (h : IoOK w [sepO L]) : IoOK w L := ⟨fun i => ⟨(h.own 0).1.1 i, fun g hg => (h.own 0).2 g ⟨i, hg⟩⟩, (h.own 0).1.2⟩
theorem RO.openSep {w : World} {L : List Own} {o : Own} (h : RO (fpL [sepO L]) w o) : RO (fpL L) w o := by rw [← fpL_sep]; exact h
theorem St.closeSep {w w' : World} {L R L' : List Own} (h : St (fpL L) w w' R L') : St (fpL [sepO L]) w w' R [sepO L'] := by
 rw [fpL_sep]
 refine ⟨h.keep, fun i => ⟨(h.ro i).1, fun g hg => ⟨((h.ro i).2 g hg).1, fun j hj => ?_⟩⟩, fun i => ?_, fun i j hij g hi hj => ?_⟩
 ·match j with
  | 0 => obtain ⟨k, hk⟩ := hj; exact ((h.ro i).2 g hg).2 k hk
  | j + 1 => exact hj
 ·match i with
  | 0 => exact ⟨⟨fun i => (h.own i).1, h.sep⟩, fun g ⟨k, hk⟩ => (h.own k).2 g hk⟩
  | i + 1 => exact ⟨trivial, fun _ h => h.elim⟩
 ·match i, j with
  | 0, 0 => exact hij rfl
  | 0, j + 1 => exact hj
  | i + 1, _ => exact hi
theorem St.pack {S : Nat → Prop} {w0 w : World} {R L : List Own} (h : St S w0 w R L) (is ks : List Nat) (hni : is.Nodup) (hd : ∀ k, k ∈ ks → k ∉ is) (hn : ks.Nodup) : St S w0 w R (sepO (sel L is) :: sel L ks) := by
 have hh := h.sub is hni
 refine h.repl is (sepO (sel L is)) ⟨fun i => (hh.own i).1, hh.sep⟩ (fun g ⟨i, hi⟩ => ?_) ks hd hn
 rw [at_sel] at hi
 split at hi
 ·rename_i k hk; exact ⟨k, List.mem_of_getElem? hk, hi⟩
 ·exact hi.elim
theorem St.unpack {S : Nat → Prop} {w0 w : World} {R L : List Own} (h : St S w0 w R L) (j : Nat) {M : List Own} (hj : at_ L j = sepO M) (ks : List Nat) (hd : ∀ k, k ∈ ks → k ∉ [j]) (hn : ks.Nodup) : St S w0 w R (M ++ sel L ks) := by
 have hok : (sepO M).ok w := by have := (h.own j).1; rwa [hj] at this
 have hfp : ∀ g, (∃ i, (at_ M i).fp g) → (at_ L j).fp g := fun g hg => by rw [hj]; exact hg
 have hh := h.sub ks hn
 have cross : ∀ i i' g, (at_ M i).fp g → (at_ (sel L ks) i').fp g → False := fun i i' g hi hi' => by
  rw [at_sel] at hi'
  split at hi'
  ·rename_i k hk
   exact h.sep k j (fun e => hd k (List.mem_of_getElem? hk) (by simp [e])) g hi' (hfp g ⟨i, hi⟩)
  ·exact hi'
 refine ⟨h.keep, fun i => ⟨(h.ro i).1, fun g hg => ⟨((h.ro i).2 g hg).1, fun j' hj' => ?_⟩⟩, fun i => ?_, fun i i' hii g hi hi' => ?_⟩
 ·rw [at_append] at hj'
  split at hj'
  ·exact ((h.ro i).2 g hg).2 j (hfp g ⟨j', hj'⟩)
  ·exact ((hh.ro i).2 g hg).2 _ hj'
 ·rw [at_append]
  split
  ·exact ⟨hok.1 i, fun g hg => (h.own j).2 g (hfp g ⟨i, hg⟩)⟩
  ·exact hh.own _
 ·rw [at_append] at hi hi'
  split at hi
  ·split at hi'
   ·exact hok.2 i i' hii g hi hi'
   ·exact cross _ _ g hi hi'
  ·split at hi'
   ·exact cross _ _ g hi' hi
   ·exact hh.sep _ _ (fun e => hii (by omega)) g hi hi'
theorem Has.marked {N : Nat} {E : Env} {fb : Operand → Value} {a : Act} (h : Has N E fb a) (hm : lk E MK = none) (D : Nat) : Has N ((MK, .func (.yield D) #[] #[]) :: E) fb { a with defers := [{ target := .collected D, args := #[] }] ++ a.defers } := by
 refine ⟨h.size, h.le, ?_, funext fun x => ?_⟩
 ·have : lk ((MK, Value.func (.yield D) #[] #[]) :: E) MK = some (.func (.yield D) #[] #[]) := by simp [lk]
  rw [this, h.nodfr hm]; rfl
 ·have he := congrFun h.ev x
  cases x with
  | tmp t =>
   have he : a.tmps.getD t undef = _ := he
   show a.tmps.getD t undef = _
   rw [he]
   simp only [rho, lk]
   cases hb : Nat.beq t MK
   ·simp only [cond_false]
    have : Nat.beq MK t = false := beq_no (fun e => by subst e; simp at hb)
    rw [this]; rfl
   ·rfl
  | const v => rfl
  | global g => rfl
  | func f => rfl
def retK (P : Program) (Q : Exit → Act → World → Prop) (N : Nat) (E : Env) (w : World) : Option Code → Prop
 | none => WX Q .normal N E w
 | some c => WC P c Q N E w
theorem WC.rangeOut {P : Program} {g : Operand} {ps : Array Tmp} {assign body : Code} {Q : Exit → Act → World → Prop} {N : Nat} {E : Env} {w : World} {S : Nat → Prop} {w0 : World} {R L : List Own} (hS : St S w0 w R L)
  (hQ : ∀ l w, ¬ Q .outgrown (markA l) w) (hm : lk E MK = none) {gf : Nat} {lb : Array Value} (hg : ∀ fb, rho E fb g = .func (.func gf) #[] lb) (eg : ∀ args, evS P (callFunc gf args) [] = some (.enter gf args, [], []))
  (k : ∀ (fn : FuncId) (T : Array Value) (l D : Nat) (w1 : World), KnowsT N E T → St S w0 w1 R (blk l (loopO none fn T ps assign body D) :: blk D (.deferred (some [])) :: L) →
   CallsR P gf (#[.func (.yield l) #[] #[]] ++ lb) w1 (fun _ w2 => ∃ pe, w2.heap[l]? = some (loopO pe fn T ps assign body D) ∧
    retK P Q N ((MK, .func (.yield D) #[] #[]) :: E) (w2.putObj l (mkLoop .exhausted pe fn T ps assign body D)) pe)) : WC P (.rangeFunc g ps assign body) Q N E w := by
 intro fb a ha ro hr
 cases ro with
 | some l => obtain ⟨w', h⟩ := hr; exact absurd h (hQ _ _)
 | none =>
  refine wpIn_rangeFunc (F := FW none) (n := 0) fun fn _ => ?_
  obtain ⟨W1, hW1⟩ : ∃ W1, (w.alloc (.deferred (some []))).alloc (loopO none fn a.tmps ps assign body w.heap.size) = W1 := ⟨_, rfl⟩
  have hS1 : St S w0 W1 R (blk (w.heap.size + 1) (loopO none fn a.tmps ps assign body w.heap.size) :: blk w.heap.size (.deferred (some [])) :: L) := by
   have h1 := (hS.new (.deferred (some []))).new (loopO none fn a.tmps ps assign body w.heap.size)
   rw [hW1] at h1
   rwa [World.size_alloc] at h1
  have hgv : a.eval g = .func (.func gf) #[] lb := by rw [ha.ev]; exact hg fb
  refine ⟨w.heap.size + 1, [{ target := .collected w.heap.size, args := #[] }], W1, { target := .fn (.func gf) lb, args := #[.func (.yield (w.heap.size + 1)) #[] #[]] }, W1, gf, #[.func (.yield (w.heap.size + 1)) #[] #[]] ++ lb, W1, ?_, ?_, fun _ _ => trivial, ?_, fun h => by simp at h, ?_⟩
  ·rw [← hW1]; exact run_enterLoop_outer _ _ _ _ _
  ·simp only [resolve, hgv]; simp [go_sem]
  ·exact evS_run _ (eg _) trivial
  ·have hc := k fn a.tmps (w.heap.size + 1) w.heap.size W1 ha.knows hS1
   have hc := (callsIn_wide (n := 0 - 1)).2 hc
   refine CallsIn.mono (F := FW none) hc ?_
   rintro e w2 ⟨v, rfl, pe, hl, hk⟩
   refine ⟨pe, w2.putObj (w.heap.size + 1) (mkLoop .exhausted pe fn a.tmps ps assign body w.heap.size), run_endLoop (P := P) hl (by cases pe <;> simp), ?_⟩
   ·cases pe with
    | none => exact hk fb _ (ha.marked hm w.heap.size)
    | some c => exact (hk fb _ (ha.marked hm w.heap.size)) none (fun l w h => hQ l w h)
theorem WC.rangeO {P : Program} {g : Operand} {ps : Array Tmp} {assign body : Code} {Q : Exit → Act → World → Prop} {N : Nat} {E : Env} {w : World} {S : Nat → Prop} {w0 : World} {R L : List Own} (hS : St S w0 w R L)
  (hQ : ∀ l w, ¬ Q .outgrown (markA l) w) (hm : lk E MK = none) {gf : Nat} {lb : List Value} (hg : ∀ fb, rho E fb g = .func (.func gf) #[] lb.toArray) (eg : ∀ args, evS P (callFunc gf args) [] = some (.enter gf args, [], []))
  (k : ∀ (LO : Option Code → Obj) (LB : Obj) (LX : Option Code → Obj) (l D : Nat) (w1 : World), LoopK N E ps assign body LO LB LX → St S w0 w1 R (blk l (LO none) :: blk D (.deferred (some [])) :: L) →
   CallsR P gf (Value.func (.yield l) #[] #[] :: lb).toArray w1 (fun _ w2 => ∃ pe, w2.heap[l]? = some (LO pe) ∧ retK P Q N ((MK, .func (.yield D) #[] #[]) :: E) (w2.putObj l (LX pe)) pe)) : WC P (.rangeFunc g ps assign body) Q N E w := by
 refine WC.rangeOut hS hQ hm hg eg (fun fn T l D w1 hT hS1 => ?_)
 have e : #[Value.func (.yield l) #[] #[]] ++ lb.toArray = (Value.func (.yield l) #[] #[] :: lb).toArray := by simp
 rw [e]
 exact k _ _ _ l D w1 ⟨fn, T, D, hT, rfl, rfl, rfl⟩ hS1
theorem CallsR.post {P : Program} {f : FuncId} {args : Array Value} {w : World} {R R' : Value → World → Prop} (h : CallsR P f args w R) (k : ∀ v w', R v w' → R' v w') : CallsR P f args w R' := by
 refine Calls.mono h ?_
 rintro e w' ⟨v, rfl, hR⟩
 exact ⟨v, rfl, k v w' hR⟩
theorem St.rdP {S : Nat → Prop} {w0 w : World} {R L : List Own} (h : St S w0 w R L) (is : List Nat) : RO (fpL (sel L is)) w (poolO R) :=
 ⟨fun i => (h.ro i).1, fun g ⟨i, hi⟩ => (h.rdT is i).2 g hi⟩
def evYi (ops : Array Oper) (lst : List (Nat × Oper)) (fl : List Nat) (N : Nat) (fb : Operand → Value) (i : Nat) (E : Env) : Option (Option Nat × Value × Array Value) :=
 match lst.drop i with
 | (k, o) :: _ => bif wantE ops E o && !memN k fl then (match o.op with
  | .call c => match c.callee with
   | .value g => (match o.dst with
    | some d => bif Nat.blt d N then some (some d, rho E fb g, c.args.map (rho E fb)) else none
    | none => some (none, rho E fb g, c.args.map (rho E fb)))
   | _ => none
  | _ => none) else none
 | [] => none
theorem WL.yield {P : Program} {ops : Array Oper} {lst : List (Nat × Oper)} {Q : Exit → Act → World → Prop} {F : FF} {N : Nat} {i : Nat} {E : Env} {w : World} {R : Value → World → Prop}
  (d : Option Nat) (yv : Value) (args : Array Value) (h : ∀ fb, evYi ops lst F.2.1 N fb i E = some (d, yv, args)) (hc : YieldR P yv args w R)
  (k : ∀ v w1, R v w1 → CellsA F lst i w1 ∧ WL P ops lst Q F (i + 1) N (putE d v E) w1) : WL P ops lst Q F i N E w := by
 intro fb a ha
 have h := h fb
 unfold evYi at h
 split at h
 ·rename_i k_ o r ho
  cases hw2 : (wantE ops E o && !memN k_ F.2.1)
  ·rw [hw2] at h; cases h
  ·rw [hw2] at h
   simp only [cond_true] at h
   simp only [Bool.and_eq_true, Bool.not_eq_true'] at hw2
   obtain ⟨hw, hfl⟩ := hw2
   split at h
   ·rename_i c hop
    split at h
    ·rename_i g hcal
     obtain ⟨l, fn, T, assign, body, hyv, hrun, hround⟩ := hc
     have hex : ∀ d', (o.dst = d') → (d', rho E fb g, c.args.map (rho E fb)) = (d, yv, args) → (execOp (rho E fb) o).run P w = .ok (.round l fn T assign body) w := by
      intro d' _ he
      injection he with e1 he; injection he with e2 e3
      unfold execOp
      simp only [hop, resolve, hcal, e2, e3, hyv]
      simp [Deferred.ofValue, invoke, Sem.run_bind, Result.andThen, hrun]
     rw [ho]
     unfold wpL
     rw [if_pos (wantE_of ha hw)]
     rw [if_neg (by rw [hfl]; simp)]; left
     unfold Oper.wpA
     have fin : ∀ d', o.dst = d' → (d', rho E fb g, c.args.map (rho E fb)) = (d, yv, args) → (∀ x, d' = some x → x < N) → upA P o a (fun a' w' => (w' = w ∨ CellsX F.1 (rowB F.2.2 k_) w') ∧ wpL P ops Q F r a' w') Q ((execOp a.eval o).run P w) := by
      intro d' hd he' hlt
      rw [ha.ev, hex d' hd he']
      simp only [upA]
      injection he' with e1 e2
      subst e1
      refine hround.mono ?_
      rintro e w'' ⟨v, rfl, hR⟩
      obtain ⟨hF, hk⟩ := k v w'' hR
      refine ⟨.inr (hF.at ho), ?_⟩
      have hk := hk fb (a.put o.dst v) (by
       rw [hd]
       cases d' with
       | none => exact ha.putn v
       | some x => exact ha.put (hlt x rfl) v)
      rw [drop_cons ho] at hk
      exact hk
     split at h
     ·rename_i x hx
      cases hb : Nat.blt x N
      ·rw [hb] at h; cases h
      ·rw [hb] at h
       simp only [cond_true] at h
       injection h with h
       exact fin (some x) hx h (fun y hy => by injection hy with hy; subst hy; exact blt_lt hb)
     ·rename_i hx
      injection h with h
      exact fin none hx h (fun y hy => by cases hy)
    ·cases h
   ·cases h
 ·cases h
theorem St.tail {S : Nat → Prop} {w0 w : World} {R L : List Own} {o : Own} (h : St S w0 w R (o :: L)) : St S w0 w R L :=
 ⟨h.keep, fun i => ⟨(h.ro i).1, fun g hg => ⟨((h.ro i).2 g hg).1, fun j hj => ((h.ro i).2 g hg).2 (j + 1) hj⟩⟩, fun i => h.own (i + 1), fun i j hij => h.sep (i + 1) (j + 1) (fun e => hij (by omega))⟩
theorem retM_key {P : Program} {fn : Func} {R : Value → World → Prop} {N : Nat} {E : Env} {w : World} {S : Nat → Prop} {w0 : World} {Rs L : List Own} (hS : St S w0 w Rs L) (j : Nat) {D : Nat} (hj : at_ L j = blk D (.deferred (some []))) (hm : lk E MK = some (.func (.yield D) #[] #[])) (ks : List Nat) (hd : ∀ k, k ∈ ks → k ∉ [j]) (hn : ks.Nodup)
  (ans : List An) (v : Value) (q : List Rq) (h : ∀ fb, evS P (resS fn (rho E fb)) ans = some (v, [], q)) (k : ∀ w1, St S w0 w1 Rs (sel L ks) → RqOK q w1 ∧ R v w1) : ∀ fb a, Has N E fb a → ∃ D w', a.defers = [{ target := .collected D, args := #[] }] ∧ (Instr.takeDeferred D).run P w = .ok [] w' ∧ ∃ v, (results fn a.tmps).run P w' = .ok v w' ∧ (∃ v', Ending.returned v = .returned v' ∧ R v' w') := by
 intro fb a ha
 have hb := hS.blkAt j hj
 have hS' := (hS.putO j hj (.deferred none) ks hd hn).tail
 obtain ⟨hq, hR⟩ := k _ hS'
 have hdf : a.defers = [{ target := .collected D, args := #[] }] := by have := ha.dfr; rw [hm] at this; exact this
 exact ⟨D, _, hdf, run_takeDeferred hb, v, by rw [results_eq ha]; exact evS_run _ (h fb) hq, v, rfl, hR⟩
theorem WX.retM {P : Program} {fn : Func} {R : Value → World → Prop} {N : Nat} {E : Env} {w : World} {S : Nat → Prop} {w0 : World} {Rs L : List Own} (hS : St S w0 w Rs L) (j : Nat) {D : Nat} (hj : at_ L j = blk D (.deferred (some []))) (hm : lk E MK = some (.func (.yield D) #[] #[])) (ks : List Nat) (hd : ∀ k, k ∈ ks → k ∉ [j]) (hn : ks.Nodup)
  (ans : List An) (v : Value) (q : List Rq) (h : ∀ fb, evS P (resS fn (rho E fb)) ans = some (v, [], q)) (k : ∀ w1, St S w0 w1 Rs (sel L ks) → RqOK q w1 ∧ R v w1) : WX (bodyPostA P fn (fun e w' => ∃ v, e = .returned v ∧ R v w')) .ret N E w :=
 fun fb a ha => .inr (retM_key hS j hj hm ks hd hn ans v q h k fb a ha)
/-! ### slices of slices, each of them owned -/
def encSl (α : Type) : Enc ((Option Addr × Nat) × List α) := ⟨1, fun x => [.slice x.1.1 x.2.length x.1.2], fun _ => rfl, fun x u h => by simp at h; subst h; rfl⟩
def rowsO {α : Type} (T : TypeId) (e : Enc α) (hs : HF) (l : List (List α)) : Own :=
  ⟨fun g => ∃ i xs, l[i]? = some xs ∧ ownFp (hs i).1 g,
   fun w => (∀ i xs, l[i]? = some xs → (rowO T e (hs i).1 (hs i).2 xs).ok w) ∧ (∀ i j xs ys, l[i]? = some xs → l[j]? = some ys → i ≠ j → ∀ g, ownFp (hs i).1 g → ownFp (hs j).1 g → False),
   fun w w' h hk => ⟨fun i xs hx => (rowO T e (hs i).1 (hs i).2 xs).loc w w' (fun g hg => h g ⟨i, xs, hx, hg⟩) (hk.1 i xs hx), hk.2⟩⟩
theorem rowsO.at {α : Type} {T : TypeId} {e : Enc α} {hs : HF} {l : List (List α)} {w : World} (h : (rowsO T e hs l).ok w) {i : Int} (h0 : 0 ≤ i) (h1 : i < (l.length : Int)) : (rowO T e (hs i.toNat).1 (hs i.toNat).2 (rdD l i [])).ok w :=
 h.1 i.toNat _ (rdD_at (d := []) h0 h1)
def hf0 : HF := fun _ => (none, 0)
theorem St.rowsNil {α : Type} {S : Nat → Prop} {w0 w : World} {R L : List Own} (h : St S w0 w R L) (T : TypeId) (e : Enc α) (n : Nat) : St S w0 w R (rowsO T e hf0 (List.replicate n ([] : List α)) :: L) :=
 h.emptyL _ ⟨fun i xs hx => (by
  rw [List.getElem?_replicate] at hx
  split at hx
  ·injection hx with hx; subst hx; exact rowO.nil T e w
  ·cases hx), fun i j xs ys _ _ _ g hg => (by obtain ⟨a, ha, _⟩ := hg; cases ha)⟩ (fun g hg => by obtain ⟨i, xs, _, a, ha, _⟩ := hg; cases ha)
theorem updH_same {γ : Type} (hs : Nat → γ) (n : Nat) (h : γ) : updH hs n h n = h := by simp [updH]
theorem updH_ne {γ : Type} (hs : Nat → γ) {n a : Nat} (h : γ) (ha : a ≠ n) : updH hs n h a = hs a := by simp [updH, ha]
theorem St.rowsOne {α : Type} {S : Nat → Prop} {w0 w : World} {R L : List Own} (h : St S w0 w R L) (j : Nat) {T : TypeId} {e : Enc α} {A : Option Addr} {c : Nat} {m : List α} (hj : at_ L j = rowO T e A c m)
  (ks : List Nat) (hd : ∀ k, k ∈ ks → k ∉ [j]) (hn : ks.Nodup) : St S w0 w R (rowsO T e (fun _ => (A, c)) [m] :: sel L ks) := by
 have ok1 : (rowO T e A c m).ok w := by have := (h.own j).1; rwa [hj] at this
 refine h.repl [j] (rowsO T e (fun _ => (A, c)) [m]) ⟨fun i xs hx => ?_, fun i k xs ys hx hy hik g _ _ => ?_⟩ (fun g hg => ⟨j, by simp, ?_⟩) ks hd hn
 ·cases i with
  | zero => simp at hx; subst hx; exact ok1
  | succ i => simp at hx
 ·cases i with
  | zero => cases k with
   | zero => exact hik rfl
   | succ k => simp at hy
  | succ i => simp at hx
 ·obtain ⟨i, xs, hx, hg⟩ := hg
  rw [hj]; exact hg
theorem St.rowsPush {α : Type} {S : Nat → Prop} {w0 w : World} {R L : List Own} (h : St S w0 w R L) (j j2 : Nat) {T : TypeId} {e : Enc α} {hs hs2 : HF} {l : List (List α)} {m : List α} (hj : at_ L j = rowsO T e hs l) (hj2 : at_ L j2 = rowsO T e hs2 [m]) (hne : j ≠ j2)
  (ks : List Nat) (hd : ∀ k, k ∈ ks → k ∉ [j, j2]) (hn : ks.Nodup) : St S w0 w R (rowsO T e (updH hs l.length (hs2 0)) (l ++ [m]) :: sel L ks) := by
 have ok1 : (rowsO T e hs l).ok w := by have := (h.own j).1; rwa [hj] at this
 have ok2 : (rowsO T e hs2 [m]).ok w := by have := (h.own j2).1; rwa [hj2] at this
 have ok3 := ok2.1 0 m rfl
 have sep : ∀ a b, l[a]? = some b → ∀ g, ownFp (hs a).1 g → ownFp (hs2 0).1 g → False := fun a b hab g h1 h2 => by
  have := h.sep j j2 hne g (by rw [hj]; exact ⟨a, b, hab, h1⟩)
  rw [hj2] at this
  exact this ⟨0, m, rfl, h2⟩
 have cs : ∀ a b, (l ++ [m])[a]? = some b → (a = l.length ∧ b = m) ∨ (a ≠ l.length ∧ l[a]? = some b) := fun a b hab => by
  by_cases ha : a < l.length
  ·rw [List.getElem?_append_left ha] at hab; exact .inr ⟨by omega, hab⟩
  ·rw [List.getElem?_append_right (by omega)] at hab
   by_cases he : a = l.length
   ·subst he; simp at hab; exact .inl ⟨rfl, hab.symm⟩
   ·rw [List.getElem?_eq_none (by simp; omega)] at hab; cases hab
 refine h.repl [j, j2] (rowsO T e (updH hs l.length (hs2 0)) (l ++ [m])) ⟨fun a b hab => ?_, fun a b m1 m2 ha hb' hab g h1 h2 => ?_⟩ (fun k hk => ?_) ks hd hn
 ·rcases cs a b hab with ⟨rfl, rfl⟩ | ⟨hne, hl⟩
  ·rw [updH_same]; exact ok3
  ·rw [updH_ne hs _ hne]; exact ok1.1 a b hl
 ·rcases cs a m1 ha with ⟨rfl, rfl⟩ | ⟨hne1, hl1⟩
  ·rcases cs b m2 hb' with ⟨rfl, rfl⟩ | ⟨hne2, hl2⟩
   ·exact hab rfl
   ·rw [updH_same] at h1; rw [updH_ne hs _ hne2] at h2; exact sep b m2 hl2 g h2 h1
  ·rcases cs b m2 hb' with ⟨rfl, rfl⟩ | ⟨hne2, hl2⟩
   ·rw [updH_same] at h2; rw [updH_ne hs _ hne1] at h1; exact sep a m1 hl1 g h1 h2
   ·rw [updH_ne hs _ hne1] at h1; rw [updH_ne hs _ hne2] at h2; exact ok1.2 a b m1 m2 hl1 hl2 hab g h1 h2
 ·obtain ⟨a, b, hab, hk⟩ := hk
  rcases cs a b hab with ⟨rfl, rfl⟩ | ⟨hne, hl⟩
  ·rw [updH_same] at hk; exact ⟨j2, by simp, by rw [hj2]; exact ⟨0, _, rfl, hk⟩⟩
  ·rw [updH_ne hs _ hne] at hk; exact ⟨j, by simp, by rw [hj]; exact ⟨a, b, hl, hk⟩⟩
theorem rowsO.ro {α : Type} {T : TypeId} {e : Enc α} {hs : HF} {l : List (List α)} {S : Nat → Prop} {w : World} (h : RO S w (rowsO T e hs l)) {i : Int} (h0 : 0 ≤ i) (h1 : i < (l.length : Int)) : RO S w (rowO T e (hs i.toNat).1 (hs i.toNat).2 (rdD l i [])) :=
 ⟨rowsO.at h.1 h0 h1, fun g hg => h.2 g ⟨i.toNat, _, rdD_at (d := []) h0 h1, hg⟩⟩
/-! ### maps that may be nil; ranges over maps -/
def mapN {κ ν : Type} (kE : κ → Value) (vE : ν → Value) (og : Option Nat) (l : List (κ × ν)) : Own :=
 ⟨fun k => og = some k, fun w => match og with
  | some g => w.heap[g]? = some (mapObj kE vE l)
  | none => l = [], fun w w' h hk => by
  cases og with
  | none => exact hk
  | some g => exact (h g rfl).trans hk⟩
theorem St.mapnSome {κ ν : Type} {S : Nat → Prop} {w0 w : World} {R L : List Own} (h : St S w0 w R L) (j : Nat) {kE : κ → Value} {vE : ν → Value} {g : Nat} {l : List (κ × ν)} (hj : at_ L j = blk g (mapObj kE vE l)) (ks : List Nat) (hd : ∀ k, k ∈ ks → k ∉ [j]) (hn : ks.Nodup) : St S w0 w R (mapN kE vE (some g) l :: sel L ks) := by
 have ok1 : w.heap[g]? = some (mapObj kE vE l) := by have := (h.own j).1; rw [hj] at this; exact this
 exact h.repl [j] _ ok1 (fun k hk => ⟨j, by simp, by rw [hj]; injection hk with hk; exact hk.symm⟩) ks hd hn
inductive ROp (α : Type) where
 | range (t : TypeId) (x : α)
 | next (x : α)
 | entry (x : α)
 | lookup (t : TypeId) (m x : α) (c : Bool)
def rgOp (o : Oper) : Option (Nat × ROp Operand) := match o.dst with
 | some d => (match o.op with
  | .range t x => some (d, .range t x)
  | .next x false => some (d, .next x)
  | .entry x => some (d, .entry x)
  | .lookup t m x c => some (d, .lookup t m x c)
  | _ => none)
 | none => none
def ropSem : ROp Value → TypeId → Sem Value
 | .range t x, _ => Instr.range t x
 | .next x, ty => Instr.next x false ty
 | .entry x, _ => Instr.entry x
 | .lookup t m x c, _ => Instr.lookup t m x c
def ropMap {α β : Type} (f : α → β) : ROp α → ROp β
 | .range t x => .range t (f x)
 | .next x => .next (f x)
 | .entry x => .entry (f x)
 | .lookup t m x c => .lookup t (f m) (f x) c
theorem rgOp_exec {P : Program} {o : Oper} {d : Nat} {r : ROp Operand} (h : rgOp o = some (d, r)) : o.dst = some d ∧ ∀ (ρ : Operand → Value) (w w1 : World) (v : Value), (ropSem (ropMap ρ r) o.type).run P w = .ok v w1 → (execOp ρ o).run P w = .ok (.value v) w1 := by
  unfold rgOp at h
  split at h
  · rename_i d' hd
    split at h
    all_goals first
      | cases h; done
      | (rename_i hop
         injection h with h; injection h with h1 h2
         subst h1 h2
         refine ⟨hd, fun ρ w w1 v hr => ?_⟩
         unfold execOp
         simp only [ropMap, ropSem] at hr
         simp only [hop, Sem.run_bind, hr, Result.andThen_ok, Sem.run_pure])
  · cases h
def evGi (P : Program) (ops : Array Oper) (lst : List (Nat × Oper)) (fl : List Nat) (N : Nat) (fb : Operand → Value) (i : Nat) (E : Env) : Option (Nat × ROp Value) :=
 match lst.drop i with
 | (k, o) :: _ => bif wantE ops E o && !memN k fl then (match rgOp o with
  | some (d, r) => bif Nat.blt d N then some (d, ropMap (rho E fb) r) else none
  | none => none) else none
 | [] => none
theorem WL.rop {P : Program} {ops : Array Oper} {lst : List (Nat × Oper)} {Q : Exit → Act → World → Prop} {F : FF} {N : Nat} {i : Nat} {E : Env} {w : World} {d : Nat} {r : ROp Value}
  (h : ∀ fb, evGi P ops lst F.2.1 N fb i E = some (d, r)) (v : Value) (w1 : World) (hr : ∀ ty, (ropSem r ty).run P w = .ok v w1)
  (k : CellsA F lst i w1 ∧ WL P ops lst Q F (i + 1) N ((d, v) :: E) w1) : WL P ops lst Q F i N E w := by
 intro fb a ha
 have h := h fb
 unfold evGi at h
 split at h
 ·rename_i k_ o rs ho
  cases hw2 : (wantE ops E o && !memN k_ F.2.1)
  ·rw [hw2] at h; cases h
  ·rw [hw2] at h
   simp only [cond_true] at h
   simp only [Bool.and_eq_true, Bool.not_eq_true'] at hw2
   obtain ⟨hw, hfl⟩ := hw2
   split at h
   ·rename_i d' r' hap
    obtain ⟨hdst, hex⟩ := rgOp_exec (P := P) hap
    cases hb2 : (Nat.blt d' N)
    ·rw [hb2] at h; cases h
    ·rw [hb2] at h
     simp only [cond_true] at h
     injection h with h; injection h with h1 h2
     subst h1
     have hr2 := hex (rho E fb) w w1 v (by rw [h2]; exact hr o.type)
     rw [ho]
     unfold wpL
     rw [if_pos (wantE_of ha hw)]
     rw [if_neg (by rw [hfl]; simp)]; left
     unfold Oper.wpA
     rw [ha.ev, hr2]
     simp only [upA]
     have := k.2 fb (a.put o.dst _) (by rw [hdst]; exact ha.put (blt_lt hb2) _)
     rw [drop_cons ho] at this
     exact ⟨.inr (k.1.at ho), this⟩
   ·cases h
 ·cases h
def iterOb (og : Option Nat) (n : Nat) (seen : List Nat) : Obj := .mapIter og n seen.toArray n
theorem WL.mrange {κ ν : Type} {P : Program} {ops : Array Oper} {lst : List (Nat × Oper)} {Q : Exit → Act → World → Prop} {F : FF} {N : Nat} {i : Nat} {E : Env} {S : Nat → Prop} {w0 w : World} {R L : List Own} (hS : St S w0 w R L)
  (j : Nat) {kT eT t : TypeId} {kE : κ → Value} {vE : ν → Value} {og : Option Nat} {l : List (κ × ν)} (hj : at_ L j = mapN kE vE og l) {d : Nat} (h : ∀ fb, evGi P ops lst F.2.1 N fb i E = some (d, .range t (.map og))) (ht : P.underlying t = some (.map kT eT))
  (k : ∀ g w1, St S w0 w1 R (blk g (iterOb og l.length []) :: L) → CellsA F lst i w1 ∧ WL P ops lst Q F (i + 1) N ((d, .pointer (some ⟨g, 0, none⟩)) :: E) w1) : WL P ops lst Q F i N E w := by
 have ok1 : (mapN kE vE og l).ok w := by have := (hS.own j).1; rwa [hj] at this
 refine WL.rop h (.pointer (some ⟨w.heap.size, 0, none⟩)) (w.alloc (iterOb og l.length [])) (fun ty => ?_) (k _ _ (hS.new _))
 cases og with
 | none =>
  have : l = [] := ok1
  subst this
  exact run_range_nilMap w t kT eT ht
 | some g =>
  have hg : w.heap[g]? = some (mapObj kE vE l) := ok1
  exact run_range_map w t kT eT g _ _ ht hg
theorem ents_get {κ ν : Type} (kE : κ → Value) (vE : ν → Value) : ∀ (l : List (κ × ν)) (b : Nat) (e : MapEntry), e ∈ ents kE vE b l ↔ ∃ (i : Nat) (hi : i < l.length), e = { key := kE l[i].1, val := vE l[i].2, born := b + i }
 | [], b, e => by simp [ents]
 | p :: r, b, e => by
  rw [ents, List.mem_cons, ents_get kE vE r]
  constructor
  ·rintro (h | ⟨i, hi, h⟩)
   ·exact ⟨0, by simp, by simpa using h⟩
   ·exact ⟨i + 1, by simpa using hi, by rw [h]; simp; omega⟩
  ·rintro ⟨i, hi, h⟩
   cases i with
   | zero => left; simpa using h
   | succ i => right; exact ⟨i, by simpa using hi, by rw [h]; simp; omega⟩
theorem ents_born {κ ν : Type} (kE : κ → Value) (vE : ν → Value) : ∀ (l : List (κ × ν)) (b : Nat), (ents kE vE b l).map (·.born) = List.range' b l.length
 | [], b => rfl
 | p :: r, b => by rw [ents, List.map_cons, ents_born kE vE r, List.length_cons, List.range'_succ]
theorem WL.mnext {κ ν : Type} {P : Program} {ops : Array Oper} {lst : List (Nat × Oper)} {Q : Exit → Act → World → Prop} {F : FF} {N : Nat} {i : Nat} {E : Env} {S : Nat → Prop} {w0 w : World} {R L : List Own} (hS : St S w0 w R L)
  (j jr : Nat) {kE : κ → Value} {vE : ν → Value} {og : Option Nat} {l : List (κ × ν)} {g : Nat} {seen : List Nat} (hj : at_ L j = mapN kE vE og l) (hr : at_ L jr = blk g (iterOb og l.length seen)) (hne : jr ≠ j) {d : Nat}
  (h : ∀ fb, evGi P ops lst F.2.1 N fb i E = some (d, .next (.pointer (some ⟨g, 0, none⟩)))) (ks : List Nat) (hd : ∀ k, k ∈ ks → k ∉ [jr]) (hn : ks.Nodup)
  (k0 : (∀ q, q < l.length → q ∈ seen) → CellsA F lst i w ∧ WL P ops lst Q F (i + 1) N ((d, .tuple #[.bool false]) :: E) w)
  (k1 : ∀ (q : Nat) (hq : q < l.length) (kk : κ) (vv : ν), l[q] = (kk, vv) → q ∉ seen → ∀ w1, St S w0 w1 R (blk g (iterOb og l.length (seen ++ [q])) :: sel L ks) → CellsA F lst i w1 ∧ WL P ops lst Q F (i + 1) N ((d, .tuple #[.bool true, kE kk, vE vv]) :: E) w1) : WL P ops lst Q F i N E w := by
 have ok1 : (mapN kE vE og l).ok w := by have := (hS.own j).1; rwa [hj] at this
 have okr : w.heap[g]? = some (iterOb og l.length seen) := by have := (hS.own jr).1; rw [hr] at this; exact this
 cases og with
 | none =>
  have hl : l = [] := ok1
  subst hl
  refine WL.rop h _ w (fun ty => ?_) (k0 (fun q hq => by simp at hq))
  show (Instr.next (.pointer (some ⟨g, 0, none⟩)) false ty).run P w = _
  simp only [Instr.next, getObj, Sem.run_bind, Sem.run, okr, iterOb, Result.andThen]
  rfl
 | some b =>
  have hb : w.heap[b]? = some (.map (ents kE vE 0 l).toArray l.length) := ok1
  have hold : ∀ x ∈ ((ents kE vE 0 l).toArray).toList, x.born < l.length := fun x hx => by
   obtain ⟨q, hq, rfl⟩ := (ents_get kE vE l 0 x).1 (by simpa using hx)
   simpa using hq
  have tyf : ∀ ty, (Instr.next (.pointer (some ⟨g, 0, none⟩)) false ty) = Instr.next (.pointer (some ⟨g, 0, none⟩)) false 0 := fun ty => rfl
  rcases Go.run_next_at (P := P) w 0 g b l.length l.length seen.toArray (ents kE vE 0 l).toArray l.length okr hb hold (Nat.le_refl _) with ⟨z0, hrun⟩ | ⟨e, he, w1, hw1, hrun⟩
  ·refine WL.rop h _ w (fun ty => hrun) (k0 (fun q hq => ?_))
   have hm : ({ key := kE l[q].1, val := vE l[q].2, born := 0 + q } : MapEntry) ∈ ents kE vE 0 l := (ents_get kE vE l 0 _).2 ⟨q, hq, rfl⟩
   have := Go.all_seen (ents kE vE 0 l).toArray seen.toArray z0 _ (by simpa using hm)
   simpa using this
  ·obtain ⟨hem, hes⟩ := Go.mem_left he
   obtain ⟨q, hq, rfl⟩ := (ents_get kE vE l 0 e).1 (by simpa using hem)
   have hqs : q ∉ seen := by simpa using hes
   have hkd : Keeps NoS w w1 := by
    rcases hw1 with rfl | rfl
    ·exact ⟨rfl, rfl, rfl, Nat.le_refl _, fun _ _ _ => rfl, fun _ => by first | exact Nat.le_refl _ | exact Nat.le_succ _⟩
    ·exact ⟨rfl, rfl, rfl, Nat.le_refl _, fun _ _ _ => rfl, fun _ => by first | exact Nat.le_refl _ | exact Nat.le_succ _⟩
   have hS1 := hS.keepN hkd
   have okr1 : w1.heap[g]? = some (iterOb (some b) l.length seen) := by have := (hS1.own jr).1; rw [hr] at this; exact this
   have hs2 := MapKept.heap_set (o' := iterOb (some b) l.length (seen ++ [q])) okr1
   have hpush : (seen.toArray.push (0 + q)) = (seen ++ [q]).toArray := by simp
   have hlt := (Array.getElem?_eq_some_iff.1 okr1).1
   have hk' : Keeps (fun k => k = g) w1 { w1 with heap := w1.heap.setIfInBounds g (iterOb (some b) l.length (seen ++ [q])) } := ⟨rfl, rfl, rfl, by simp, fun k _ hk => hs2.2 k hk, fun _ => Nat.le_refl _⟩
   have hS' : St (fun k => k = g) w1 { w1 with heap := w1.heap.setIfInBounds g (iterOb (some b) l.length (seen ++ [q])) } [] [blk g (iterOb (some b) l.length (seen ++ [q]))] :=
    St.one hk' hs2.1 (fun k hk => by
     have hk : k = g := hk
     subst hk
     exact ⟨.inl rfl, by simpa using hlt⟩)
   refine WL.rop h _ { w1 with heap := w1.heap.setIfInBounds g (iterOb (some b) l.length (seen ++ [q])) } (fun ty => ?_) (k1 q hq _ _ rfl hqs _ (hS1.call hS' [jr] ks (fun k hk => ⟨jr, by simp, by rw [hr]; exact hk⟩) hd hn))
   show (Instr.next (.pointer (some ⟨g, 0, none⟩)) false ty).run P w = _
   rw [tyf ty, hrun, hpush]; rfl
theorem WL.mentry {κ ν : Type} {P : Program} {ops : Array Oper} {lst : List (Nat × Oper)} {Q : Exit → Act → World → Prop} {F : FF} {N : Nat} {i : Nat} {E : Env} {S : Nat → Prop} {w0 w : World} {R L : List Own} (hS : St S w0 w R L)
  (j jr : Nat) {kE : κ → Value} {vE : ν → Value} {og : Option Nat} {l : List (κ × ν)} {g : Nat} {seen : List Nat} {q : Nat} (hq : q < l.length) {kk : κ} {vv : ν} (hkv : l[q] = (kk, vv)) (hj : at_ L j = mapN kE vE og l) (hr : at_ L jr = blk g (iterOb og l.length (seen ++ [q]))) {d : Nat}
  (h : ∀ fb, evGi P ops lst F.2.1 N fb i E = some (d, .entry (.pointer (some ⟨g, 0, none⟩))))
  (k : CellsA F lst i w ∧ WL P ops lst Q F (i + 1) N ((d, .tuple #[kE kk, vE vv]) :: E) w) : WL P ops lst Q F i N E w := by
 obtain rfl : l[q].1 = kk := by rw [hkv]
 obtain rfl : l[q].2 = vv := by rw [hkv]
 have ok1 : (mapN kE vE og l).ok w := by have := (hS.own j).1; rwa [hj] at this
 have okr : w.heap[g]? = some (iterOb og l.length (seen ++ [q])) := by have := (hS.own jr).1; rw [hr] at this; exact this
 cases og with
 | none =>
  have hl : l = [] := ok1
  subst hl; simp at hq
 | some b =>
  have hb : w.heap[b]? = some (.map (ents kE vE 0 l).toArray l.length) := ok1
  have hm : ({ key := kE l[q].1, val := vE l[q].2, born := 0 + q } : MapEntry) ∈ ents kE vE 0 l := (ents_get kE vE l 0 _).2 ⟨q, hq, rfl⟩
  have hpush : (seen ++ [q]).toArray = seen.toArray.push (0 + q) := by simp
  refine WL.rop h _ w (fun ty => ?_) k
  show (Instr.entry (.pointer (some ⟨g, 0, none⟩))).run P w = _
  unfold iterOb at okr
  rw [hpush] at okr
  exact Go.run_entry_at w g b l.length seen.toArray (ents kE vE 0 l).toArray l.length { key := kE l[q].1, val := vE l[q].2, born := 0 + q } okr hb (by simpa using hm) (by
   rw [show ((ents kE vE 0 l).toArray).toList = ents kE vE 0 l by simp, ents_born]
   exact List.nodup_range')
/-! a range over a map tells one thing in whatever order -/
def OrdFree {σ ν : Type} (step : σ → ν → Option σ) (a : σ) (vs : List ν) (r : σ) : Prop := ∀ vs' : List ν, vs'.Perm vs → vs'.foldlM step a = some r
theorem foldlM_append' {σ ν : Type} (step : σ → ν → Option σ) : ∀ (a : List ν) (x : σ) (b : List ν), (a ++ b).foldlM step x = (a.foldlM step x).bind fun y => b.foldlM step y
 | [], x, b => rfl
 | v :: a, x, b => by
  rw [List.cons_append, List.foldlM_cons, List.foldlM_cons]
  show (step x v).bind _ = ((step x v).bind _).bind _
  cases step x v with
  | none => rfl
  | some y => exact foldlM_append' step a y b
theorem perm_of_seen {n : Nat} {seen : List Nat} (hn : seen.Nodup) (hl : ∀ x ∈ seen, x < n) : ∃ rest, (seen ++ rest).Perm (List.range n) := by
 refine ⟨(List.range n).filter fun x => !seen.contains x, ?_⟩
 have h1 : ((List.range n).filter fun x => seen.contains x).Perm seen := by
  refine (List.perm_ext_iff_of_nodup (List.nodup_range.filter _) hn).2 (fun x => ?_)
  rw [List.mem_filter, List.mem_range]
  exact ⟨fun h => by simpa using h.2, fun h => ⟨hl x h, by simpa using h⟩⟩
 exact (h1.symm.append_right _).trans (List.filter_append_perm _ _)
theorem map_range_get {κ ν : Type} (l : List (κ × ν)) : (List.range l.length).map (fun q => (l[q]?).map Prod.snd) = (l.map Prod.snd).map some := by
 apply List.ext_getElem
 ·simp
 ·intro i a b
  have hi : i < l.length := by simpa using a
  simp [List.getElem?_eq_getElem hi]
def valsAt {κ ν : Type} (l : List (κ × ν)) (seen : List Nat) : List ν := seen.filterMap fun q => (l[q]?).map Prod.snd
theorem valsAt_range {κ ν : Type} (l : List (κ × ν)) : valsAt l (List.range l.length) = l.map Prod.snd := by
 unfold valsAt
 have : ((List.range l.length).map fun q => (l[q]?).map Prod.snd).filterMap id = (List.range l.length).filterMap fun q => (l[q]?).map Prod.snd := by rw [List.filterMap_map]; rfl
 rw [← this, map_range_get, List.filterMap_map]
 show (l.map Prod.snd).filterMap some = _
 rw [List.filterMap_some]
theorem valsAt_push {κ ν : Type} (l : List (κ × ν)) (seen : List Nat) {q : Nat} (hq : q < l.length) : valsAt l (seen ++ [q]) = valsAt l seen ++ [l[q].2] := by
 unfold valsAt
 rw [List.filterMap_append]
 simp [List.getElem?_eq_getElem hq]
theorem OrdFree.part {σ κ ν : Type} {step : σ → ν → Option σ} {a r : σ} {l : List (κ × ν)} (h : OrdFree step a (l.map Prod.snd) r) {seen : List Nat} (hn : seen.Nodup) (hl : ∀ x ∈ seen, x < l.length) : ∃ b, (valsAt l seen).foldlM step a = some b := by
 obtain ⟨rest, hp⟩ := perm_of_seen hn hl
 have hp2 : (valsAt l (seen ++ rest)).Perm (l.map Prod.snd) := by rw [← valsAt_range]; exact hp.filterMap _
 have := h _ hp2
 unfold valsAt at this ⊢
 rw [List.filterMap_append, foldlM_append'] at this
 cases hs : (seen.filterMap fun q => (l[q]?).map Prod.snd).foldlM step a with
 | none => rw [hs] at this; cases this
 | some b => exact ⟨b, rfl⟩
theorem OrdFree.all {σ κ ν : Type} {step : σ → ν → Option σ} {a r : σ} {l : List (κ × ν)} (h : OrdFree step a (l.map Prod.snd) r) {seen : List Nat} (hn : seen.Nodup) (hl : ∀ x ∈ seen, x < l.length) (hall : ∀ q, q < l.length → q ∈ seen) : (valsAt l seen).foldlM step a = some r := by
 have hp : seen.Perm (List.range l.length) := (List.perm_ext_iff_of_nodup hn List.nodup_range).2 fun x => by rw [List.mem_range]; exact ⟨hl x, hall x⟩
 have hp2 : (valsAt l seen).Perm (l.map Prod.snd) := by rw [← valsAt_range]; exact hp.filterMap _
 exact h _ hp2
theorem OrdFree.step {σ κ ν : Type} {step : σ → ν → Option σ} {a r b : σ} {l : List (κ × ν)} (h : OrdFree step a (l.map Prod.snd) r) {seen : List Nat} (hn : seen.Nodup) (hl : ∀ x ∈ seen, x < l.length) {q : Nat} (hq : q < l.length) (hqs : q ∉ seen) {kk : κ} {vv : ν} (hkv : l[q] = (kk, vv)) (hb : (valsAt l seen).foldlM step a = some b) : (seen ++ [q]).Nodup ∧ (∀ x ∈ seen ++ [q], x < l.length) ∧ seen.length < l.length ∧ ∃ c, step b vv = some c ∧ (valsAt l (seen ++ [q])).foldlM step a = some c := by
 obtain rfl : l[q].2 = vv := by rw [hkv]
 have hn' : (seen ++ [q]).Nodup := by
  rw [List.nodup_append]
  exact ⟨hn, List.nodup_cons.2 ⟨by simp, List.nodup_nil⟩, fun x hx y hy => by rw [List.mem_singleton] at hy; intro e; exact hqs (by rw [← hy, ← e]; exact hx)⟩
 have hl' : ∀ x ∈ seen ++ [q], x < l.length := fun x hx => by
  rcases List.mem_append.1 hx with h | h
  ·exact hl x h
  ·rw [List.mem_singleton] at h; rw [h]; exact hq
 obtain ⟨c, hc⟩ := h.part hn' hl'
 refine ⟨hn', hl', ?_, c, ?_, hc⟩
 ·obtain ⟨rest, hp⟩ := perm_of_seen hn' hl'
  have := hp.length_eq
  rw [List.length_append, List.length_append, List.length_range, List.length_singleton] at this
  omega
 rw [valsAt_push l seen hq, foldlM_append', hb] at hc
 have hc : (step b l[q].2).bind (fun y => some y) = some c := hc
 cases hs : step b l[q].2 with
 | none => rw [hs] at hc; cases hc
 | some y => rw [hs] at hc; exact hc
/-! sums that stay at a limit -/
/-! ### a region that draws, told by what stands after each set of its operations -/
def KQ (K : Act → World → Prop) (Q : Exit → Act → World → Prop) : Exit → Act → World → Prop := fun e a w => match e with
 | .normal => K a w
 | e => Q e a w
theorem opA_KQ {P : Program} {o : Oper} {a : Act} {w : World} {K : Act → World → Prop} {Q : Exit → Act → World → Prop} (h : o.wpA P a w K (KQ K Q)) : o.wpA P a w K Q := by
 unfold Oper.wpA at *
 generalize (execOp a.eval o).run P w = r at h ⊢
 cases r with
 | ok n w' =>
  cases n <;> simp only [upA] at h ⊢
  case value u => exact h
  case skip => exact h
  case enter f args => exact Calls.mono h (fun e w'' he => by cases e <;> exact he)
  case round l f tmps assign body => exact RoundIn.mono h (fun e w'' he => by cases e <;> exact he)
 | halt x w' => exact h
def upd (d : Nat → Bool) (i : Nat) : Nat → Bool := fun k => bif Nat.beq k i then true else d k
def sO (b : Bool) (o : Own) : Own := bif b then o else emp
theorem op_WL {P : Program} {ops : Array Oper} {Q : Exit → Act → World → Prop} {K : Act → World → Prop} {i : Nat} {N : Nat} {E : Env} {fb : Operand → Value} {a : Act} {w : World} (hi : i < ops.size) (ha : Has N E fb a)
  (h : WL P ops (opl ops [i]) (KQ K Q) NF 0 N E w) : wpOpA P ops Q i K a w := by
 have ho : ops[i]? = some (ops.getD i default) := by simp [Array.getD_eq_getD_getElem?, Array.getElem?_eq_getElem hi]
 have h : wpL P ops (KQ K Q) NF [(i, ops.getD i default)] a w := h fb a ha
 generalize ops.getD i default = o at ho h
 unfold wpOpA
 rw [ho]
 unfold wpL at h
 simp only
 split
 ·rename_i hw
  rw [if_pos hw, if_neg (by show ¬ (memN i [] = true); simp [memN])] at h
  exact opA_KQ (opA_mono (fun a' w' hh => hh.2) (h.resolve_right id))
 ·rename_i hw
  rw [if_neg hw] at h
  exact h
theorem WC.regionI {P : Program} {id : Nat} {ops : Array Oper} {Q : Exit → Act → World → Prop} {N : Nat} {E : Env} {w : World} (I : (Nat → Bool) → Act → World → Prop) (B : List (List Nat)) (hm : P.follows .mixedOrders = true) (hB : chkB ops B ops.size = true)
  (h0 : ∀ d fb a, (∀ i, i < ops.size → d i = false) → Has N E fb a → I d a w.drew)
  (step : ∀ d i a w, i < ops.size → d i = false → (∀ j ∈ dirs ops i, d j = true) → (∀ k, k < ops.size → d k = true → ∀ j ∈ dirs ops k, d j = true) → I d a w → wpOpA P ops Q i (I (upd d i)) a w)
  (fin : ∀ d a w, (∀ i, i < ops.size → d i = true) → I d a w → Q .normal a w) : WC P (.region id ops true) Q N E w := by
 intro fb a ha
 refine wpA_region_draw fun t => ?_
 simp only [Region.schedule, hm, Bool.true_or, if_true]
 have key : ∀ (fuel t : Nat) (listed : Array Bool) (U : List Nat) (a : Act) (w : World), listed.size = ops.size → Left ops listed fuel U → (∀ k, k < ops.size → listed[k]? = some true → ∀ j ∈ dirs ops k, listed[j]? = some true) →
   I (fun k => listed.getD k true) a w → wpOpsA P ops Q (goL ops fuel t listed []) a w := by
  intro fuel
  induction fuel with
  | zero =>
   intro t listed U a w hs hl hdn hI
   show wpOpsA P ops Q (Region.linearise.go Region.Mode.any ops 0 t listed []) a w
   simp only [Region.linearise.go, List.reverse_nil, wpOpsA]
   refine fin _ a w (fun i hi => ?_) hI
   have : U = [] := List.eq_nil_of_length_eq_zero hl.len
   subst this
   have hn : ¬ listed[i]? = some false := fun e => by have := (hl.mem i).2 ⟨hi, e⟩; cases this
   show listed.getD i true = true
   rw [Array.getD_eq_getD_getElem?]
   cases hb : listed[i]? with
   | none => rfl
   | some b => cases b with
    | false => exact absurd hb hn
    | true => rfl
  | succ fuel ih =>
   intro t listed U a w hs hl hdn hI
   obtain ⟨i, t', hi, hgo⟩ := goL_step (fuel := fuel) (t := t) (hl.ready hB hs)
   rw [hgo, wpOpsA_cons]
   obtain ⟨hi1, hi2, hi3⟩ := mem_ready.1 hi
   have hif := ready_false hi2
   have up : (fun k => (listed.setIfInBounds i true).getD k true) = upd (fun k => listed.getD k true) i := by
    funext k
    unfold upd
    by_cases hk : k = i
    ·subst hk
     rw [show Nat.beq k k = true from Nat.beq_refl k, Array.getD_eq_getD_getElem?, Array.getElem?_setIfInBounds, if_pos rfl]
     simp [hs, hi1]
    ·rw [beq_no hk, Array.getD_eq_getD_getElem?, Array.getElem?_setIfInBounds, if_neg (fun e => hk e.symm), cond_false]; exact (Array.getD_eq_getD_getElem? ..).symm
   have hst := step (fun k => listed.getD k true) i a w hi1 hi2 (fun j hj => by rw [Array.getD_eq_getD_getElem?, hi3 j hj]; rfl) (fun k hk hkt j hj => by
    rw [Array.getD_eq_getD_getElem?] at hkt
    have hk2 : listed[k]? = some true := by
     cases hb : listed[k]? with
     | none => have := Array.getElem?_eq_none_iff.1 hb; omega
     | some b => rw [hb] at hkt; simp at hkt; rw [hkt]
    rw [Array.getD_eq_getD_getElem?, hdn k hk hk2 j hj]; rfl) hI
   have hK : ∀ a' w', I (upd (fun k => listed.getD k true) i) a' w' → wpOpsA P ops Q (goL ops fuel t' (listed.setIfInBounds i true) []) a' w' := fun a' w' hI' => by
    rw [← up] at hI'
    exact ih t' _ _ a' w' (by simpa using hs) (hl.next hi1 hif) (down_next hif hi3 hdn) hI'
   unfold wpOpA at hst ⊢
   have ho : ops[i]? = some ops[i] := Array.getElem?_eq_getElem hi1
   rw [ho] at hst ⊢
   simp only at hst ⊢
   split
   ·rename_i hw; rw [if_pos hw] at hst; exact opA_mono hK hst
   ·rename_i hw; rw [if_neg hw] at hst; exact hK _ _ hst
 refine key ops.size t _ (List.range ops.size) a _ (by simp) ⟨by simp, List.nodup_range, fun i => ?_⟩ (fun k hk h => ?_) (h0 _ fb a (fun i hi => ?_) ha)
 ·rw [List.mem_range, Array.getElem?_replicate]
  constructor
  ·intro h; exact ⟨h, by rw [if_pos h]⟩
  ·exact fun h => h.1
 ·rw [Array.getElem?_replicate] at h
  split at h <;> simp at h
 ·rw [Array.getD_eq_getD_getElem?, Array.getElem?_replicate, if_pos hi]; rfl
theorem Has.peek {N : Nat} {E : Env} {fb : Operand → Value} {a : Act} (h : Has N E fb a) (s : Nat) (hs : s < N) : Has N ((s, a.eval (.tmp s)) :: E) fb a := by
 have hne : s ≠ MK := fun e => by have := h.le; omega
 refine ⟨h.size, h.le, ?_, funext fun x => ?_⟩
 ·have e1 : lk ((s, a.eval (.tmp s)) :: E) MK = lk E MK := by simp only [lk, beq_no hne, cond_false]
  rw [e1]; exact h.dfr
 ·have e := congrFun h.ev x
  rw [e]
  cases x with
  | tmp t =>
   by_cases ht : s = t
   ·subst ht
    have e2 := congrFun h.ev (.tmp s)
    simp only [rho, lk, Nat.beq_refl, cond_true, beq_no hne, cond_false] at e2 ⊢
    exact e2.symm
   ·simp only [rho, lk, beq_no ht, cond_false]
  | _ => rfl
/-! ### the rest of a slice is cleared: what stands ahead of it is kept -/
def DoneL (d : Nat → Bool) (L : List (Nat × Value × Value)) : Prop := ∀ i q, L[i]? = some q → d i = true → q.2.1 = q.2.2
theorem DoneL.none {d : Nat → Bool} {L : List (Nat × Value × Value)} (h : ∀ i, i < L.length → d i = false) : DoneL d L := fun i q hq hd => by
 obtain ⟨hi, _⟩ := List.getElem?_eq_some_iff.1 hq
 rw [h i hi] at hd; cases hd
theorem DoneL.upd {d : Nat → Bool} {L L' : List (Nat × Value × Value)} (H : DoneL d L) (i : Nat) (x : Value) (e : L' = L.set i (i, x, x)) : DoneL (Gw.upd d i) L' := fun j q hq hd => by
 subst e
 by_cases hj : j = i
 ·subst hj
  rw [List.getElem?_set_self'] at hq
  cases h : L[j]? with
  | none => rw [h] at hq; cases hq
  | some y => rw [h] at hq; injection hq with hq; subst hq; rfl
 ·rw [List.getElem?_set_ne (fun h => hj h.symm)] at hq
  refine H j q hq ?_
  unfold Gw.upd at hd
  rwa [beq_no hj, cond_false] at hd
theorem DoneL.chg {d : Nat → Bool} {L : List (Nat × Value × Value)} (H : DoneL d L) (k : Nat) (q : Nat × Value × Value) (hk : d k = false) : DoneL d (L.set k q) := fun j y hq hd => by
 by_cases hj : j = k
 ·subst hj; rw [hk] at hd; cases hd
 ·rw [List.getElem?_set_ne (fun h => hj h.symm)] at hq
  exact H j y hq hd
def StepI (P : Program) (ops : Array Oper) (Q : Exit → Act → World → Prop) (I : (Nat → Bool) → Act → World → Prop) (i : Nat) : Prop := ∀ d a w, d i = false → (∀ j ∈ dirs ops i, d j = true) → (∀ k, k < ops.size → d k = true → ∀ j ∈ dirs ops k, d j = true) → I d a w → wpOpA P ops Q i (I (upd d i)) a w
def StepsI (P : Program) (ops : Array Oper) (Q : Exit → Act → World → Prop) (I : (Nat → Bool) → Act → World → Prop) (n : Nat) : Prop := ∀ i, i < n → StepI P ops Q I i
theorem StepsI.zero {P : Program} {ops : Array Oper} {Q : Exit → Act → World → Prop} {I : (Nat → Bool) → Act → World → Prop} : StepsI P ops Q I 0 := fun i h => by omega
theorem StepsI.succ {P : Program} {ops : Array Oper} {Q : Exit → Act → World → Prop} {I : (Nat → Bool) → Act → World → Prop} {n : Nat} (h : StepsI P ops Q I n) (k : StepI P ops Q I n) : StepsI P ops Q I (n + 1) := fun i hi => by
 by_cases e : i = n
 ·rw [e]; exact k
 ·exact h i (by omega)
theorem WC.regionJ {P : Program} {id : Nat} {ops : Array Oper} {Q : Exit → Act → World → Prop} {N : Nat} {E : Env} {w : World} (I : (Nat → Bool) → Act → World → Prop) (B : List (List Nat)) (hm : P.follows .mixedOrders = true) (hB : chkB ops B ops.size = true) (n : Nat) (hn : ops.size = n)
  (h0 : ∀ d fb a, (∀ i, i < ops.size → d i = false) → Has N E fb a → I d a w.drew)
  (step : StepsI P ops Q I n)
  (fin : ∀ d a w, (∀ i, i < ops.size → d i = true) → I d a w → Q .normal a w) : WC P (.region id ops true) Q N E w :=
 WC.regionI I B hm hB h0 (fun d i a w hi hd hj hc hI => step i (by rw [← hn]; exact hi) d a w hd hj hc hI) fin
theorem ex10 {A0 A1 A2 A3 A4 A5 A6 A7 A8 A9 : Type} {p : A0 → A1 → A2 → A3 → A4 → A5 → A6 → A7 → A8 → A9 → Prop} {G : Prop} (h : ∃ a b c d e f g i j k, p a b c d e f g i j k) (q : ∀ a b c d e f g i j k, p a b c d e f g i j k → G) : G := by
 obtain ⟨a, b, c, d, e, f, g, i, j, k, h⟩ := h
 exact q a b c d e f g i j k h
/-! ### a slice of which it is known whether it is nil -/
end Gw
