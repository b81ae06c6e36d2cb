/- The framework's second part: regions that draw their order; stores into rows; what comes in is opened. -/
import Derived.Test.YtamnfcbekogkdaaGa
set_option linter.unusedVariables false
set_option linter.unusedSimpArgs false
namespace Gw
open Go Go.RowKit

/-! ### 12. a region that draws its order -/
def tmpsL : List Operand → List Nat
  | [] => []
  | .tmp t :: r => t :: tmpsL r
  | _ :: r => tmpsL r
theorem tmpsL_mem {t : Nat} : ∀ {l : List Operand}, .tmp t ∈ l → t ∈ tmpsL l
  | o :: r, h => by
    rcases List.mem_cons.1 h with rfl | h'
    · simp [tmpsL]
    · have ih := tmpsL_mem h'
      cases o <;> simp [tmpsL, ih]
theorem memN_iff {n : Nat} : ∀ {l : List Nat}, memN n l = true ↔ n ∈ l
  | [] => by simp [memN]
  | k :: r => by
    simp only [memN, List.mem_cons]
    cases h : Nat.beq k n
    · have : n ≠ k := fun e => by subst e; simp at h
      simp [this, memN_iff]
    · have := Nat.eq_of_beq_eq_true h
      subst this; simp
def agreeOn (ρ ρ' : Operand → Value) (l : List Operand) : Prop := ∀ x, x ∈ l → ρ x = ρ' x
theorem map_agree {ρ ρ' : Operand → Value} {xs : Array Operand} (h : agreeOn ρ ρ' xs.toList) : xs.map ρ = xs.map ρ' := by
  apply Array.map_congr_left
  intro x hx
  exact h x (by simpa using hx)
theorem omap_agree {ρ ρ' : Operand → Value} {x : Option Operand} (h : agreeOn ρ ρ' x.toArray.toList) : x.map ρ = x.map ρ' := by
  cases x with
  | none => rfl
  | some y => simp [h y (by simp)]
theorem pmap_agree {ρ ρ' : Operand → Value} {ps : Array (Nat × Operand)} (h : agreeOn ρ ρ' (ps.toList.map (·.2))) : (ps.map fun (i, x) => (i, ρ x)) = (ps.map fun (i, x) => (i, ρ' x)) := by
  apply Array.map_congr_left
  rintro ⟨i, x⟩ hx
  have := h x (by simp; exact ⟨i, by simpa using hx⟩)
  simp [this]
theorem agree_app {ρ ρ' : Operand → Value} {l m : List Operand} (h : agreeOn ρ ρ' (l ++ m)) : agreeOn ρ ρ' l ∧ agreeOn ρ ρ' m := ⟨fun x hx => h x (List.mem_append_left _ hx), fun x hx => h x (List.mem_append_right _ hx)⟩
theorem resolve_agree {ρ ρ' : Operand → Value} {c : Call} {t : TypeId} (h : agreeOn ρ ρ' c.operands.toList) : resolve ρ c t = resolve ρ' c t := by
  obtain ⟨ce, ar, ats⟩ := c
  cases ce with
  | value f =>
    simp only [Call.operands, Array.toList_append] at h
    have h1 := agree_app h
    simp only [resolve, map_agree h1.2, h1.1 f (by simp)]
  | invoke r m =>
    simp only [Call.operands, Array.toList_append] at h
    have h1 := agree_app h
    simp only [resolve, map_agree h1.2, h1.1 r (by simp)]
  | builtin b =>
    simp only [Call.operands, Array.toList_append] at h
    have h1 := agree_app h
    simp only [resolve, map_agree h1.2]
/-- The operations that occur here hang on their operands alone. -/
def plainOp : Op → Bool
  | .select .. | .go _ | .defer _ | .panic _ | .send .. | .recv .. => false
  | _ => true
theorem exec_agree {ρ ρ' : Operand → Value} {o : Oper} (hp : plainOp o.op = true) (h : agreeOn ρ ρ' o.op.operands.toList) : execOp ρ o = execOp ρ' o := by
  unfold execOp
  cases ho : o.op <;> rw [ho] at h hp <;> simp only [plainOp] at hp <;> simp only [Op.operands] at h <;> try (first | cases hp; done)
  case move x => simp only [h x (by simp)]
  case assign x => simp only [h x (by simp)]
  case pick c a b => simp only [h c (by simp), h a (by simp), h b (by simp)]
  case box e v => simp only [h v (by simp)]
  case build t ps => simp only [pmap_agree (ρ := ρ) (ρ' := ρ') (ps := ps) (by simpa using h)]
  case buildSlice t l ps => simp only [pmap_agree (ρ := ρ) (ρ' := ρ') (ps := ps) (by simpa using h)]
  case insert t m k v => simp only [h m (by simp), h k (by simp), h v (by simp)]
  case load t a => simp only [h a (by simp)]
  case store t a v => simp only [h a (by simp), h v (by simp)]
  case nilCheck x => simp only [h x (by simp)]
  case binOp op t x y u => simp only [h x (by simp), h y (by simp)]
  case unOp op t x => simp only [h x (by simp)]
  case convert s d x => simp only [h x (by simp)]
  case sliceToArrayPointer d x => simp only [h x (by simp)]
  case makeInterface t x => simp only [h x (by simp)]
  case makeFunc f fi ca =>
    have h1 := agree_app (by simpa using h)
    simp only [map_agree (ρ := ρ) (ρ' := ρ') (xs := fi) h1.1, map_agree (ρ := ρ) (ρ' := ρ') (xs := ca) h1.2]
  case makeMap t r => simp only [omap_agree h]
  case makeChan t s => simp only [h s (by simp)]
  case makeSlice t l c => simp only [h l (by simp), h c (by simp)]
  case slice t x lo hi mx =>
    cases lo <;> cases hi <;> cases mx <;> (simp [agreeOn] at h; simp [h])
  case fieldAddr t x f => simp only [h x (by simp)]
  case field t x f => simp only [h x (by simp)]
  case indexAddr t x i => simp only [h x (by simp), h i (by simp)]
  case index t x i => simp only [h x (by simp), h i (by simp)]
  case lookup t x i c => simp only [h x (by simp), h i (by simp)]
  case mapUpdate t m k v => simp only [h m (by simp), h k (by simp), h v (by simp)]
  case mapEntry t m k => simp only [h m (by simp), h k (by simp)]
  case entryStore t m s v => simp only [h m (by simp), h s (by simp), h v (by simp)]
  case range t x => simp only [h x (by simp)]
  case next i s => simp only [h i (by simp)]
  case entry i => simp only [h i (by simp)]
  case typeAssert x t u c => simp only [h x (by simp)]
  case extract t i => simp only [h t (by simp)]
  case call c => simp only [resolve_agree h]
theorem put_comm (a : Act) {d d' : Option Nat} (h : ∀ x, d = some x → d' ≠ some x) (v u : Value) : (a.put d v).put d' u = (a.put d' u).put d v := by
  cases d with
  | none => rfl
  | some x =>
    cases d' with
    | none => rfl
    | some y =>
      have hne : x ≠ y := fun e => h x rfl (by rw [e])
      simp only [Act.put]
      congr 1
      apply Array.ext_getElem?
      intro i
      simp only [Array.getElem?_setIfInBounds, Array.size_setIfInBounds]
      by_cases h1 : x = i <;> by_cases h2 : y = i <;> simp_all
def guardD (ops : Array Oper) (o : Oper) : Option Nat := match o.guard with
  | some (j, _) => (ops[j]?).bind (·.dst)
  | none => none
/-- x writes nothing that y looks at or writes. -/
def indep1 (ops : Array Oper) (x y : Oper) : Bool := match x.dst with
  | none => true
  | some d => !memN d (tmpsL y.op.operands.toList) && (match guardD ops y with
    | some g => !Nat.beq g d
    | none => true) && (match y.dst with
    | some e => !Nat.beq e d
    | none => true)
theorem getD_put {a : Act} {d : Option Nat} {v : Value} {t : Nat} (h : d ≠ some t) : (a.put d v).tmps.getD t undef = a.tmps.getD t undef := by
  cases d with
  | none => rfl
  | some x =>
    have hne : x ≠ t := fun e => h (by rw [e])
    simp only [Act.put, Array.getD_eq_getD_getElem?, Array.getElem?_setIfInBounds]
    simp [hne]
theorem get_put {a : Act} {d : Option Nat} {v : Value} {t : Nat} (h : d ≠ some t) : (a.put d v).tmps[t]? = a.tmps[t]? := by
  cases d with
  | none => rfl
  | some x =>
    have hne : x ≠ t := fun e => h (by rw [e])
    simp only [Act.put, Array.getElem?_setIfInBounds]
    simp [hne]
theorem indep1_agree {ops : Array Oper} {x y : Oper} (h : indep1 ops x y = true) (a : Act) (v : Value) : agreeOn (a.put x.dst v).eval a.eval y.op.operands.toList := by
  intro o ho
  cases o with
  | tmp t =>
    have ht := tmpsL_mem ho
    simp only [Act.eval]
    apply getD_put
    intro e
    unfold indep1 at h
    rw [e] at h
    simp only [Bool.and_eq_true, Bool.not_eq_true'] at h
    have := h.1.1
    rw [memN_iff.2 ht] at this
    cases this
  | _ => rfl
theorem indep1_wanted {ops : Array Oper} {x y : Oper} (h : indep1 ops x y = true) (a : Act) (v : Value) : Region.wanted y (yielded ops (a.put x.dst v).tmps) = Region.wanted y (yielded ops a.tmps) := by
  unfold Region.wanted
  cases hg : y.guard with
  | none => rfl
  | some p =>
    obtain ⟨j, want⟩ := p
    have : yielded ops (a.put x.dst v).tmps j = yielded ops a.tmps j := by
      unfold yielded
      cases hj : (ops[j]?).bind (·.dst) with
      | none => rfl
      | some dj =>
        simp only [Option.bind_some]
        rw [get_put]
        intro e
        unfold indep1 guardD at h
        rw [e, hg] at h
        simp only [hj, Bool.and_eq_true, Bool.not_eq_true'] at h
        have h2 := h.1.2
        simp at h2
    simp only [this]
theorem indep1_dst {ops : Array Oper} {x y : Oper} (h : indep1 ops x y = true) : ∀ d, x.dst = some d → y.dst ≠ some d := by
  intro d hd e
  unfold indep1 at h
  rw [hd, e] at h
  simp at h
def indep (ops : Array Oper) (x y : Oper) : Bool := indep1 ops x y && indep1 ops y x && plainOp x.op && plainOp y.op
/-- No panic is let through. -/
def NoPanic (Q : Exit → Act → World → Prop) : Prop := ∀ c a w, ¬ Q (.panic c) a w
theorem NoPanic.seq {K : Act → World → Prop} {Q : Exit → Act → World → Prop} (h : NoPanic Q) : NoPanic (Exit.then K Q) := fun c a w => h c a w
theorem NoPanic.block {id : Nat} {Q : Exit → Act → World → Prop} (h : NoPanic Q) : NoPanic (Exit.inBlock id Q) := fun c a w => h c a w
theorem NoPanic.body {P : Program} {fn : Func} {R : Value → World → Prop} : NoPanic (bodyPost P fn (fun e w' => ∃ v, e = .returned v ∧ R v w')) := by
  rintro c a w ⟨_, v, h, _⟩
  cases h
theorem upon_swap {P : Program} {o : Oper} {a : Act} {d : Option Nat} {v : Value} {K K' : Act → World → Prop} {Q : Exit → Act → World → Prop} (hQ : NoPanic Q) (hd : ∀ x, d = some x → o.dst ≠ some x) (r : Result Next)
    (hK : ∀ a' w', K (a'.put d v) w' → K' a' w') (h : o.upon P (a.put d v) K Q r) : o.upon P a K' Q r := by
  cases r with
  | ok n w' =>
    cases n <;> simp only [Oper.upon] at h ⊢
    case value u => exact hK _ _ (by rw [put_comm a hd] at h; exact h)
    case skip => exact hK _ _ (by rw [put_comm a hd] at h; exact h)
    case defer dd =>
      refine hK _ _ ?_
      have e : ({ a.put d v with defers := dd :: (a.put d v).defers } : Act) = ({ a with defers := dd :: a.defers } : Act).put d v := by cases d <;> rfl
      rw [e, put_comm _ hd] at h
      exact h
    case enter f args =>
      refine Calls.mono h ?_
      rintro e w'' he
      cases e with
      | returned u => exact hK _ _ (by have he : K ((a.put d v).put o.dst u) w'' := he; rw [put_comm a hd] at he; exact he)
      | panicked c => exact absurd he (hQ c _ _)
      | outgrown => exact he
    case row r args => exact Rows.mono h (fun u w'' he => hK _ _ (by rw [put_comm a hd] at he; exact he))
  | halt x w' =>
    cases x <;> simp only [Oper.upon] at h ⊢
    exact absurd h (hQ _ _ _)
theorem wpL_swap {P : Program} {ops : Array Oper} {Q : Exit → Act → World → Prop} {F : FF} (hQ : NoPanic Q) {kx ky : Nat} {x y : Oper} {r : List (Nat × Oper)} {a : Act} {w : World} (hx : memN kx F.2.1 = true) (hi : indep ops x y = true)
    (h : wpL P ops Q F ((kx, x) :: (ky, y) :: r) a w) : wpL P ops Q F ((ky, y) :: (kx, x) :: r) a w := by
  unfold indep at hi
  simp only [Bool.and_eq_true] at hi
  obtain ⟨⟨⟨h1, h2⟩, px⟩, py⟩ := hi
  have dxy := indep1_dst h1
  have dyx := indep1_dst h2
  have back : ∀ u, wpL P ops Q F ((ky, y) :: r) (a.put x.dst u) w → (∀ a' w', wpL P ops Q F r (a'.put x.dst u) w' → (∃ z, a' = a.put y.dst z ∨ ∃ ds, a' = ({ a with defers := ds } : Act).put y.dst z) → wpL P ops Q F ((kx, x) :: r) a' w') → wpL P ops Q F ((ky, y) :: (kx, x) :: r) a w := by
    intro u h k
    unfold wpL at h ⊢
    rw [indep1_wanted h1 a u] at h
    have hex : execOp (a.put x.dst u).eval y = execOp a.eval y := exec_agree py (indep1_agree h1 a u)
    split
    · rename_i hw
      rw [if_pos hw] at h
      split
      · rename_i hfl
        rw [if_pos hfl] at h
        obtain ⟨v, hv, h⟩ := h
        rw [hex] at hv
        refine ⟨v, hv, k _ w ?_ ⟨v, .inl rfl⟩⟩
        rw [put_comm a dxy] at h
        exact h
      · rename_i hfl
        rw [if_neg hfl] at h
        rcases h with h | ⟨h, ho⟩
        · left
          unfold Oper.wp at h ⊢
          rw [hex] at h
          generalize (execOp a.eval y).run P w = res at h ⊢
          cases res with
          | ok n w' =>
            cases n <;> simp only [Oper.upon] at h ⊢
            case value z => exact ⟨h.1, k _ w' (by have := h.2; rw [put_comm a dxy] at this; exact this) ⟨z, .inl rfl⟩⟩
            case skip => exact ⟨h.1, k _ w' (by have := h.2; rw [put_comm a dxy] at this; exact this) ⟨undef, .inl rfl⟩⟩
            case defer dd =>
              have e : ({ a.put x.dst u with defers := dd :: (a.put x.dst u).defers } : Act) = ({ a with defers := dd :: a.defers } : Act).put x.dst u := by cases x.dst <;> rfl
              rw [e] at h
              exact ⟨h.1, k _ w' (by have := h.2; rw [put_comm _ dxy] at this; exact this) ⟨undef, .inr ⟨_, rfl⟩⟩⟩
            case enter f args =>
              refine Calls.mono h ?_
              rintro e w'' he
              cases e with
              | returned z =>
                have he : (w'' = w ∨ CellsX F.1 (rowB F.2.2 ky) w'') ∧ wpL P ops Q F r ((a.put x.dst u).put y.dst z) w'' := he
                exact ⟨he.1, k _ w'' (by have := he.2; rw [put_comm a dxy] at this; exact this) ⟨z, .inl rfl⟩⟩
              | panicked c => exact absurd he (hQ c _ _)
              | outgrown => exact he
            case row rr args => exact Rows.mono h (fun z w'' he => ⟨he.1, k _ w'' (by have := he.2; rw [put_comm a dxy] at this; exact this) ⟨z, .inl rfl⟩⟩)
          | halt x' w' =>
            cases x' <;> simp only [Oper.upon] at h ⊢
            exact absurd h (hQ _ _ _)
        · right
          unfold Oper.asks at h ⊢
          rw [hex] at h
          exact ⟨h, ho⟩
    · rename_i hw
      rw [if_neg hw] at h
      refine k _ w ?_ ⟨undef, .inl rfl⟩
      rw [put_comm a dxy] at h
      exact h
  have wx : ∀ a', (∃ z, a' = a.put y.dst z ∨ ∃ ds, a' = ({ a with defers := ds } : Act).put y.dst z) → Region.wanted x (yielded ops a'.tmps) = Region.wanted x (yielded ops a.tmps) ∧ execOp a'.eval x = execOp a.eval x := by
    rintro a' ⟨z, rfl | ⟨ds, rfl⟩⟩
    · exact ⟨indep1_wanted h2 a z, exec_agree px (indep1_agree h2 a z)⟩
    · exact ⟨indep1_wanted h2 ({ a with defers := ds } : Act) z, exec_agree px (indep1_agree h2 ({ a with defers := ds } : Act) z)⟩
  rw [wpL] at h
  split at h
  · rename_i hw
    obtain ⟨v, hv, h⟩ := h
    refine back v h (fun a' w' hk ha' => ?_)
    rw [wpL, (wx a' ha').1, if_pos hw, if_pos hx, (wx a' ha').2]
    exact ⟨v, hv, hk⟩
  · rename_i hw
    refine back undef h (fun a' w' hk ha' => ?_)
    rw [wpL, (wx a' ha').1, if_neg hw]
    exact hk
theorem wpL_front {P : Program} {ops : Array Oper} {Q : Exit → Act → World → Prop} {F : FF} (hQ : NoPanic Q) {ky : Nat} {y : Oper} {r : List (Nat × Oper)} {w : World} :
    ∀ (pre : List (Nat × Oper)) (a : Act), (∀ x ∈ pre, memN x.1 F.2.1 = true ∧ indep ops x.2 y = true) → wpL P ops Q F (pre ++ (ky, y) :: r) a w → wpL P ops Q F ((ky, y) :: (pre ++ r)) a w := by
  intro pre
  induction pre with
  | nil => intro a _ h; exact h
  | cons x pre ih =>
    intro a hp h
    obtain ⟨kx, x⟩ := x
    have hx := hp (kx, x) (List.mem_cons_self ..)
    refine wpL_swap hQ hx.1 hx.2 ?_
    have hp' : ∀ z ∈ pre, memN z.1 F.2.1 = true ∧ indep ops z.2 y = true := fun z hz => hp z (List.mem_cons_of_mem _ hz)
    rw [List.cons_append, wpL] at h
    rw [wpL]
    split
    · rename_i hw
      rw [if_pos hw, if_pos hx.1] at h
      rw [if_pos hx.1]
      obtain ⟨v, hv, h⟩ := h
      exact ⟨v, hv, ih _ hp' h⟩
    · rename_i hw
      rw [if_neg hw] at h
      exact ih _ hp' h
def opl (ops : Array Oper) (L : List Nat) : List (Nat × Oper) := L.map fun i => (i, ops.getD i default)
theorem CellsX.k {x : Nat} {b : List Nat} {w : World} (hx : memN x b = false) : ∀ {l : List (Nat × Addr × Value)}, CellsX l b w → CellsK l x w
  | [], _ => trivial
  | (y, a, v) :: r, h => by
    unfold CellsX at h
    cases hy : memN y b
    · rw [hy] at h
      exact ⟨fun _ => h.1, CellsX.k hx h.2⟩
    · rw [hy] at h
      refine ⟨fun e => ?_, CellsX.k hx h⟩
      have := Nat.eq_of_beq_eq_true e
      subst this; rw [hx] at hy; cases hy
def dirs (ops : Array Oper) (i : Nat) : List Nat := match ops[i]? with
  | some o => o.after.toList.filterMap fun e => bif Region.binds .any e then some e.on else none
  | none => []
def chkB (ops : Array Oper) (B : List (List Nat)) : Nat → Bool
  | 0 => true
  | i + 1 => chkB ops B i && (dirs ops i).all (fun j => Nat.blt j i) && (rowB B i).all (fun x => memN x (dirs ops i) || (dirs ops i).any (fun j => memN x (rowB B j)))
theorem chkB_at {ops : Array Oper} {B : List (List Nat)} : ∀ {n : Nat}, chkB ops B n = true → ∀ i, i < n → (∀ j ∈ dirs ops i, j < i) ∧ ∀ x ∈ rowB B i, x ∈ dirs ops i ∨ ∃ j, j ∈ dirs ops i ∧ x ∈ rowB B j
  | 0, _, i, hi => absurd hi (by omega)
  | n + 1, h, i, hi => by
    simp only [chkB, Bool.and_eq_true, List.all_eq_true] at h
    by_cases e : i = n
    · subst e
      refine ⟨fun j hj => blt_lt (h.1.2 j hj), fun x hx => ?_⟩
      have := h.2 x hx
      rw [Bool.or_eq_true, List.any_eq_true] at this
      rcases this with h | ⟨j, hj, h⟩
      · exact .inl (memN_iff.1 h)
      · exact .inr ⟨j, hj, memN_iff.1 h⟩
    · exact chkB_at h.1.1 i (by omega)
theorem closed {ops : Array Oper} {B : List (List Nat)} (hB : chkB ops B ops.size = true) {listed : Array Bool} (hdn : ∀ k, k < ops.size → listed[k]? = some true → ∀ j ∈ dirs ops k, listed[j]? = some true) :
    ∀ i, i < ops.size → (∀ j ∈ dirs ops i, listed[j]? = some true) → ∀ x ∈ rowB B i, listed[x]? = some true := by
  intro i
  induction i using Nat.strongRecOn with
  | _ i ih =>
    intro hi hd x hx
    obtain ⟨hlt, hb⟩ := chkB_at hB i hi
    rcases hb x hx with h | ⟨j, hj, h⟩
    · exact hd x h
    · have hji := hlt j hj
      exact ih j hji (by omega) (hdn j (by omega) (hd j hj)) x h
def relB (ops : Array Oper) (fl : List Nat) (B : List (List Nat)) (x i : Nat) : Bool := memN x (rowB B i) || (memN x fl && indep ops (ops.getD x default) (ops.getD i default)) || (!memN x fl && !memN i fl)
/-- x stands ahead of i in r's list: why i can't come up before x, or comes before it all the same. -/
def PairL (ops : Array Oper) (fl : List Nat) (B : List (List Nat)) : List Nat → Prop
  | [] => True
  | x :: r => (∀ i ∈ r, relB ops fl B x i = true ∨ (memN x fl = false ∧ ∃ y ∈ r, memN y fl = false ∧ y ∈ rowB B i)) ∧ PairL ops fl B r
def pairB (ops : Array Oper) (fl : List Nat) (B : List (List Nat)) : List Nat → Bool
  | [] => true
  | x :: r => r.all (fun i => relB ops fl B x i || (!memN x fl && r.any (fun y => !memN y fl && memN y (rowB B i)))) && pairB ops fl B r
theorem pairB_P {ops : Array Oper} {fl : List Nat} {B : List (List Nat)} : ∀ {L : List Nat}, pairB ops fl B L = true → PairL ops fl B L
  | [], _ => trivial
  | x :: r, h => by
    simp only [pairB, Bool.and_eq_true, List.all_eq_true] at h
    refine ⟨fun i hi => ?_, pairB_P h.2⟩
    have := h.1 i hi
    rw [Bool.or_eq_true] at this
    rcases this with h | h
    · exact .inl h
    · rw [Bool.and_eq_true, Bool.not_eq_true', List.any_eq_true] at h
      obtain ⟨h1, y, hy, h2⟩ := h
      rw [Bool.and_eq_true, Bool.not_eq_true'] at h2
      exact .inr ⟨h1, y, hy, h2.1, memN_iff.1 h2.2⟩
theorem PairL.get {ops : Array Oper} {fl : List Nat} {B : List (List Nat)} {i : Nat} {post : List Nat} : ∀ {pre : List Nat}, PairL ops fl B (pre ++ i :: post) → ∀ x ∈ pre, relB ops fl B x i = true ∨ (memN x fl = false ∧ ∃ y ∈ pre ++ i :: post, memN y fl = false ∧ y ∈ rowB B i)
  | [], _, x, hx => by cases hx
  | z :: pre, h, x, hx => by
    rcases List.mem_cons.1 hx with rfl | hx
    · rcases h.1 i (by simp) with h | ⟨h1, y, hy, h2⟩
      · exact .inl h
      · exact .inr ⟨h1, y, List.mem_cons_of_mem _ hy, h2⟩
    · rcases PairL.get h.2 x hx with h | ⟨h1, y, hy, h2⟩
      · exact .inl h
      · exact .inr ⟨h1, y, List.mem_cons_of_mem _ hy, h2⟩
theorem PairL.rem {ops : Array Oper} {fl : List Nat} {B : List (List Nat)} {i : Nat} {post : List Nat} : ∀ {pre : List Nat}, (memN i fl = true ∨ ∀ x ∈ pre, memN x fl = true) → PairL ops fl B (pre ++ i :: post) → PairL ops fl B (pre ++ post)
  | [], _, h => h.2
  | z :: pre, hc, h => by
    refine ⟨fun k hk => ?_, PairL.rem (hc.imp id fun h x hx => h x (List.mem_cons_of_mem _ hx)) h.2⟩
    rcases h.1 k (by
      rcases List.mem_append.1 hk with hk | hk
      · exact List.mem_append_left _ hk
      · exact List.mem_append_right _ (List.mem_cons_of_mem _ hk)) with h | ⟨h1, y, hy, h2, h3⟩
    · exact .inl h
    · refine .inr ⟨h1, y, ?_, h2, h3⟩
      rcases List.mem_append.1 hy with hy | hy
      · exact List.mem_append_left _ hy
      · rcases List.mem_cons.1 hy with rfl | hy
        · exfalso
          rcases hc with hc | hc
          · rw [h2] at hc; cases hc
          · rw [hc z (List.mem_cons_self ..)] at h1; cases h1
        · exact List.mem_append_right _ hy
def nodupB : List Nat → Bool
  | [] => true
  | x :: r => !memN x r && nodupB r
theorem nodupB_P : ∀ {L : List Nat}, nodupB L = true → L.Nodup
  | [], _ => List.nodup_nil
  | x :: r, h => by
    simp only [nodupB, Bool.and_eq_true, Bool.not_eq_true'] at h
    refine List.nodup_cons.2 ⟨fun hx => ?_, nodupB_P h.2⟩
    rw [memN_iff.2 hx] at h
    cases h.1
def projF (fl : List Nat) (L : List Nat) : List Nat := L.filter fun i => !memN i fl
def covB (B : List (List Nat)) : Nat → List (List Nat) → Bool
  | 0, Ps => !Ps.isEmpty
  | n + 1, Ps => match Ps with
    | [] => false
    | P :: _ => P.all fun i => P.any (fun x => memN x (rowB B i)) || covB B n ((Ps.filter fun Q => Q.head? == some i).map List.tail)
theorem covB_ne {B : List (List Nat)} {n : Nat} {Ps : List (List Nat)} (h : covB B n Ps = true) : Ps ≠ [] := by
  rintro rfl
  cases n <;> simp [covB] at h
def lstOK (ops : Array Oper) (fl : List Nat) (B : List (List Nat)) (L : List Nat) : Bool :=
  pairB ops fl B L && nodupB L && Nat.beq L.length ops.size && L.all (fun i => Nat.blt i ops.size) && (List.range ops.size).all (fun i => memN i L)
def drawOK (ops : Array Oper) (fl : List Nat) (Ls : List (List Nat)) (B : List (List Nat)) : Bool :=
  chkB ops B ops.size && Ls.all (lstOK ops fl B) && covB B ops.size (Ls.map (projF fl))
def remI (i : Nat) (L : List Nat) : List Nat := L.filter fun k => !Nat.beq k i
theorem remI_mid {i : Nat} {pre post : List Nat} (hn : (pre ++ i :: post).Nodup) : remI i (pre ++ i :: post) = pre ++ post := by
  have h := List.nodup_append.1 hn
  have h2 := List.nodup_cons.1 h.2.1
  have key : ∀ l : List Nat, i ∉ l → remI i l = l := fun l hl => by
    unfold remI
    rw [List.filter_eq_self]
    intro k hk
    cases hb : Nat.beq k i
    · rfl
    · have := Nat.eq_of_beq_eq_true hb; subst this; exact absurd hk hl
  have h1 : i ∉ pre := fun hi => h.2.2 i hi i (List.mem_cons_self ..) rfl
  unfold remI at key ⊢
  rw [List.filter_append, List.filter_cons, key pre h1, key post h2.1]
  simp
theorem minL : ∀ {L : List Nat}, L ≠ [] → ∃ i, i ∈ L ∧ ∀ j ∈ L, i ≤ j
  | [x], _ => ⟨x, by simp, by simp⟩
  | x :: y :: r, _ => by
    obtain ⟨i, hi, hm⟩ := minL (L := y :: r) (by simp)
    by_cases h : x ≤ i
    · exact ⟨x, by simp, fun j hj => by rcases List.mem_cons.1 hj with rfl | hj; exact Nat.le_refl _; exact Nat.le_trans h (hm j hj)⟩
    · exact ⟨i, List.mem_cons_of_mem _ hi, fun j hj => by rcases List.mem_cons.1 hj with rfl | hj; omega; exact hm j hj⟩
theorem mem_ready {ops : Array Oper} {listed : Array Bool} {i : Nat} : i ∈ Region.ready .any ops listed ↔ i < ops.size ∧ listed.getD i true = false ∧ ∀ j ∈ dirs ops i, listed[j]? = some true := by
  unfold Region.ready
  rw [List.mem_filter, List.mem_range]
  constructor
  · rintro ⟨hi, h⟩
    rw [Bool.and_eq_true, Bool.not_eq_true'] at h
    refine ⟨hi, h.1, fun j hj => ?_⟩
    have ho : ops[i]? = some ops[i] := Array.getElem?_eq_getElem hi
    have h2 := h.2
    rw [ho] at h2
    simp only [Option.map_some, Option.getD_some, Array.all_eq_true'] at h2
    unfold dirs at hj
    rw [ho] at hj
    obtain ⟨e, he, hb⟩ := List.mem_filterMap.1 hj
    have := h2 e (by simpa using he)
    cases hbe : Region.binds .any e
    · rw [hbe] at hb; cases hb
    · rw [hbe] at hb this
      simp only [cond_true, Option.some.injEq] at hb
      subst hb
      simp only [Bool.not_true, Bool.false_or, Array.getD_eq_getD_getElem?] at this
      cases hl : listed[e.on]? with
      | none => rw [hl] at this; cases this
      | some b => rw [hl] at this; simp only [Option.getD_some] at this; rw [this]
  · rintro ⟨hi, h1, h2⟩
    refine ⟨hi, ?_⟩
    have ho : ops[i]? = some ops[i] := Array.getElem?_eq_getElem hi
    rw [Bool.and_eq_true, Bool.not_eq_true', ho]
    refine ⟨h1, ?_⟩
    simp only [Option.map_some, Option.getD_some, Array.all_eq_true']
    intro e he
    cases hbe : Region.binds .any e
    · rfl
    · have := h2 e.on (by
        unfold dirs
        rw [ho]
        exact List.mem_filterMap.2 ⟨e, by simpa using he, by rw [hbe]; rfl⟩)
      simp [Array.getD_eq_getD_getElem?, this]
abbrev goL (ops : Array Oper) := Region.linearise.go Region.Mode.any ops
theorem goL_step {ops : Array Oper} {fuel t : Nat} {listed : Array Bool} (hne : Region.ready .any ops listed ≠ []) : ∃ i t', i ∈ Region.ready .any ops listed ∧ goL ops (fuel + 1) t listed [] = i :: goL ops fuel t' (listed.setIfInBounds i true) [] := by
  have hlt : t % (Region.ready .any ops listed).length < (Region.ready .any ops listed).length := Nat.mod_lt _ (by
    cases h : Region.ready .any ops listed with
    | nil => exact absurd h hne
    | cons _ _ => simp)
  refine ⟨(Region.ready .any ops listed)[t % (Region.ready .any ops listed).length], t / (Region.ready .any ops listed).length, List.getElem_mem hlt, ?_⟩
  show Region.linearise.go Region.Mode.any ops (fuel + 1) t listed [] = _
  simp only [Region.linearise.go]
  change (match (Region.ready .any ops listed)[t % (Region.ready .any ops listed).length]? with
      | some i => Region.linearise.go Region.Mode.any ops fuel (t / (Region.ready .any ops listed).length) (listed.setIfInBounds i true) [i]
      | none => [].reverse) = _
  rw [List.getElem?_eq_getElem hlt]
  simp only
  rw [linearise_go_acc]
  rfl
/-- What is not listed yet. -/
structure Left (ops : Array Oper) (listed : Array Bool) (n : Nat) (U : List Nat) : Prop where
  len : U.length = n
  nd : U.Nodup
  mem : ∀ i, i ∈ U ↔ i < ops.size ∧ listed[i]? = some false
theorem Left.next {ops : Array Oper} {listed : Array Bool} {n : Nat} {U : List Nat} (h : Left ops listed (n + 1) U) {i : Nat} (hi : i < ops.size) (hif : listed[i]? = some false) : Left ops (listed.setIfInBounds i true) n (remI i U) := by
  obtain ⟨pre, post, rfl⟩ := List.append_of_mem ((h.mem i).2 ⟨hi, hif⟩)
  have hn2 := List.nodup_append.1 h.nd
  rw [remI_mid h.nd]
  refine ⟨by have := h.len; simp at this ⊢; omega, ?_, ?_⟩
  · exact List.nodup_append.2 ⟨hn2.1, (List.nodup_cons.1 hn2.2.1).2, fun x hx y hy => hn2.2.2 x hx y (List.mem_cons_of_mem _ hy)⟩
  · intro j
    rw [Array.getElem?_setIfInBounds]
    have hne : j ∈ pre ++ post → j ≠ i := by
      rintro hj rfl
      rcases List.mem_append.1 hj with hj | hj
      · exact hn2.2.2 j hj j (List.mem_cons_self ..) rfl
      · exact (List.nodup_cons.1 hn2.2.1).1 hj
    constructor
    · intro hj
      have := (h.mem j).1 (by
        rcases List.mem_append.1 hj with hj | hj
        · exact List.mem_append_left _ hj
        · exact List.mem_append_right _ (List.mem_cons_of_mem _ hj))
      rw [if_neg (fun e => hne hj e.symm)]
      exact this
    · rintro ⟨hj1, hj2⟩
      split at hj2
      · split at hj2 <;> cases hj2
      · rename_i hne
        have := (h.mem j).2 ⟨hj1, hj2⟩
        rcases List.mem_append.1 this with hj | hj
        · exact List.mem_append_left _ hj
        · rcases List.mem_cons.1 hj with rfl | hj
          · exact absurd rfl hne
          · exact List.mem_append_right _ hj
theorem Left.ready {ops : Array Oper} {B : List (List Nat)} (hB : chkB ops B ops.size = true) {listed : Array Bool} {n : Nat} {U : List Nat} (hs : listed.size = ops.size) (h : Left ops listed (n + 1) U) : Region.ready .any ops listed ≠ [] := by
  obtain ⟨i, hi, hmin⟩ := minL (L := U) (by intro e; have := h.len; rw [e] at this; simp at this)
  obtain ⟨hi1, hi2⟩ := (h.mem i).1 hi
  have : i ∈ Region.ready .any ops listed := mem_ready.2 ⟨hi1, by simp [Array.getD_eq_getD_getElem?, hi2], fun j hj => by
    have hji := (chkB_at hB i hi1).1 j hj
    cases hlj : listed[j]? with
    | none =>
      have := Array.getElem?_eq_none_iff.1 hlj
      omega
    | some b =>
      cases b
      · have := hmin j ((h.mem j).2 ⟨by omega, hlj⟩); omega
      · rfl⟩
  intro e
  rw [e] at this
  cases this
theorem down_next {ops : Array Oper} {listed : Array Bool} {i : Nat} (hif : listed[i]? = some false) (hi3 : ∀ j ∈ dirs ops i, listed[j]? = some true) (hdn : ∀ k, k < ops.size → listed[k]? = some true → ∀ j ∈ dirs ops k, listed[j]? = some true) :
    ∀ k, k < ops.size → (listed.setIfInBounds i true)[k]? = some true → ∀ j ∈ dirs ops k, (listed.setIfInBounds i true)[j]? = some true := by
  intro k hk1 hk2 j hj
  rw [Array.getElem?_setIfInBounds] at hk2 ⊢
  have old : listed[j]? = some true := by
    split at hk2
    · rename_i e; subst e; exact hi3 j hj
    · exact hdn k hk1 hk2 j hj
  split
  · rename_i e; subst e; rw [hif] at old; cases old
  · exact old
theorem ready_false {listed : Array Bool} {i : Nat} (h2 : listed.getD i true = false) : listed[i]? = some false := by
  rw [Array.getD_eq_getD_getElem?] at h2
  cases hl : listed[i]? with
  | none => rw [hl] at h2; cases h2
  | some b => rw [hl] at h2; simp only [Option.getD_some] at h2; rw [h2]
/-- Whatever order comes up: one of those that are told has its effects in that order. -/
theorem covered {ops : Array Oper} {B : List (List Nat)} {fl : List Nat} (hB : chkB ops B ops.size = true) :
    ∀ (fuel n t : Nat) (listed : Array Bool) (U : List Nat) (Ps : List (List Nat)), listed.size = ops.size → fuel ≤ n → Left ops listed fuel U → (∀ k, k < ops.size → listed[k]? = some true → ∀ j ∈ dirs ops k, listed[j]? = some true) →
      (∀ P ∈ Ps, P.Nodup ∧ ∀ i, i ∈ P ↔ i ∈ U ∧ memN i fl = false) → covB B n Ps = true → projF fl (goL ops fuel t listed []) ∈ Ps := by
  intro fuel
  induction fuel with
  | zero =>
    intro n t listed U Ps hs hfn hU hdn hP hc
    have hU0 : U = [] := List.eq_nil_of_length_eq_zero hU.len
    subst hU0
    cases Ps with
    | nil => exact absurd rfl (covB_ne hc)
    | cons P r =>
      have hp := hP P (List.mem_cons_self ..)
      have : P = [] := by
        cases P with
        | nil => rfl
        | cons x _ => have := (hp.2 x).1 (List.mem_cons_self ..); cases this.1
      subst this
      exact List.mem_cons_self ..
  | succ fuel ih =>
    intro n t listed U Ps hs hfn hU hdn hP hc
    obtain ⟨i, t', hi, hgo⟩ := goL_step (fuel := fuel) (t := t) (hU.ready hB hs)
    rw [hgo]
    obtain ⟨hi1, hi2, hi3⟩ := mem_ready.1 hi
    have hif := ready_false hi2
    have hcl := closed hB hdn i hi1 hi3
    have hU' := hU.next hi1 hif
    have memU' : ∀ k, k ∈ remI i U ↔ k ∈ U ∧ k ≠ i := fun k => by
      unfold remI
      rw [List.mem_filter]
      refine and_congr_right fun _ => ⟨fun h e => by subst e; simp at h, fun h => by
        cases hb : Nat.beq k i
        · rfl
        · exact absurd (Nat.eq_of_beq_eq_true hb) h⟩
    have hn0 : n ≠ 0 := by omega
    obtain ⟨n, rfl⟩ : ∃ m, n = m + 1 := ⟨n - 1, by omega⟩
    cases hfi : memN i fl
    · -- an effect
      have e1 : projF fl (i :: goL ops fuel t' (listed.setIfInBounds i true) []) = i :: projF fl (goL ops fuel t' (listed.setIfInBounds i true) []) := by
        unfold projF; rw [List.filter_cons, hfi]; rfl
      rw [e1]
      cases hPs : Ps with
      | nil => rw [hPs] at hc; exact absurd rfl (covB_ne hc)
      | cons P r =>
        rw [hPs] at hc
        simp only [covB, List.all_eq_true] at hc
        rw [← hPs] at hc ⊢
        have hp := hP P (by rw [hPs]; exact List.mem_cons_self ..)
        have hci := hc i ((hp.2 i).2 ⟨(hU.mem i).2 ⟨hi1, hif⟩, hfi⟩)
        rw [Bool.or_eq_true] at hci
        rcases hci with hci | hci
        · exfalso
          obtain ⟨x, hx, hxb⟩ := List.any_eq_true.1 hci
          have hxm := (hU.mem x).1 ((hp.2 x).1 hx).1
          have := hcl x (memN_iff.1 hxb)
          rw [hxm.2] at this; cases this
        · have := ih n t' (listed.setIfInBounds i true) (remI i U) _ (by simpa using hs) (by omega) hU' (down_next hif hi3 hdn) (fun Q hQ => by
            obtain ⟨P', hP', rfl⟩ := List.mem_map.1 hQ
            have hm := List.mem_filter.1 hP'
            have hh : P'.head? = some i := by simpa using hm.2
            obtain ⟨hnd, hmem⟩ := hP P' hm.1
            cases P' with
            | nil => cases hh
            | cons y tl =>
              simp only [List.head?_cons, Option.some.injEq] at hh
              subst hh
              have h2 := List.nodup_cons.1 hnd
              refine ⟨h2.2, fun k => ?_⟩
              simp only [List.tail_cons]
              rw [memU']
              constructor
              · intro hk
                have := (hmem k).1 (List.mem_cons_of_mem _ hk)
                exact ⟨⟨this.1, fun e => h2.1 (e ▸ hk)⟩, this.2⟩
              · rintro ⟨⟨h3, h4⟩, h5⟩
                rcases List.mem_cons.1 ((hmem k).2 ⟨h3, h5⟩) with e | h
                · exact absurd e h4
                · exact h) hci
          obtain ⟨P', hP', he⟩ := List.mem_map.1 this
          have hm := List.mem_filter.1 hP'
          have hh : P'.head? = some i := by simpa using hm.2
          rw [← he]
          cases P' with
          | nil => cases hh
          | cons y tl =>
            simp only [List.head?_cons, Option.some.injEq] at hh
            subst hh
            exact hm.1
    · have e1 : projF fl (i :: goL ops fuel t' (listed.setIfInBounds i true) []) = projF fl (goL ops fuel t' (listed.setIfInBounds i true) []) := by
        unfold projF; rw [List.filter_cons, hfi]; rfl
      rw [e1]
      refine ih (n + 1) t' (listed.setIfInBounds i true) (remI i U) Ps (by simpa using hs) (by omega) hU' (down_next hif hi3 hdn) (fun Q hQ => ?_) hc
      obtain ⟨hnd, hmem⟩ := hP Q hQ
      refine ⟨hnd, fun k => ?_⟩
      rw [hmem k, memU']
      constructor
      · rintro ⟨h1, h2⟩
        exact ⟨⟨h1, fun e => by subst e; rw [hfi] at h2; cases h2⟩, h2⟩
      · rintro ⟨⟨h1, _⟩, h2⟩
        exact ⟨h1, h2⟩
/-- An order that comes up, out of one with the same effects in the same order. -/
theorem lin_of {P : Program} {ops : Array Oper} {Q : Exit → Act → World → Prop} {F : FF} (hQ : NoPanic Q) (hB : chkB ops F.2.2 ops.size = true) :
    ∀ (fuel t : Nat) (listed : Array Bool) (L : List Nat) (a : Act) (w : World), (∀ x, x < ops.size → listed[x]? = some false → CellsK F.1 x w) → listed.size = ops.size → Left ops listed fuel L →
      (∀ k, k < ops.size → listed[k]? = some true → ∀ j ∈ dirs ops k, listed[j]? = some true) → PairL ops F.2.1 F.2.2 L → projF F.2.1 L = projF F.2.1 (goL ops fuel t listed []) →
      wpL P ops Q F (opl ops L) a w → wpOps P ops Q (goL ops fuel t listed []) a w := by
  intro fuel
  induction fuel with
  | zero =>
    intro t listed L a w hF hs hl hdn hp hpr h
    have : L = [] := List.eq_nil_of_length_eq_zero hl.len
    subst this
    show wpOps P ops Q (Region.linearise.go Region.Mode.any ops 0 t listed []) a w
    simpa [Region.linearise.go, wpOps, opl, wpL] using h
  | succ fuel ih =>
    intro t listed L a w hF hs hl hdn hp hpr h
    obtain ⟨i, t', hi, hgo⟩ := goL_step (fuel := fuel) (t := t) (hl.ready hB hs)
    rw [hgo] at hpr ⊢
    rw [wpOps_cons]
    obtain ⟨hi1, hi2, hi3⟩ := mem_ready.1 hi
    have hif := ready_false hi2
    have hcl := closed hB hdn i hi1 hi3
    have hunl : ∀ x, x < ops.size → listed[x]? = some false → memN x (rowB F.2.2 i) = false := fun x _ hx => by
      cases hm' : memN x (rowB F.2.2 i)
      · rfl
      · have h1 := hcl x (memN_iff.1 hm'); rw [hx] at h1; cases h1
    have ho : ops[i]? = some ops[i] := Array.getElem?_eq_getElem hi1
    have hod : ops.getD i default = ops[i] := by simp [Array.getD_eq_getD_getElem?, ho]
    have hl' := hl.next hi1 hif
    obtain ⟨pre, post, rfl⟩ := List.append_of_mem ((hl.mem i).2 ⟨hi1, hif⟩)
    rw [remI_mid hl.nd] at hl'
    have hn2 := List.nodup_append.1 hl.nd
    have hpre : ∀ x ∈ pre, memN x F.2.1 = true ∧ indep ops (ops.getD x default) (ops.getD i default) = true := by
      intro x hx
      have hxm := (hl.mem x).1 (List.mem_append_left _ hx)
      have hr : relB ops F.2.1 F.2.2 x i = true := by
        rcases hp.get x hx with h | ⟨_, y, hy, _, h3⟩
        · exact h
        · exfalso
          have hym := (hl.mem y).1 hy
          have := hcl y h3
          rw [hym.2] at this; cases this
      unfold relB at hr
      rw [hunl x hxm.1 hxm.2, Bool.false_or, Bool.or_eq_true] at hr
      rcases hr with hr | hr
      · rwa [Bool.and_eq_true] at hr
      · exfalso
        simp only [Bool.and_eq_true, Bool.not_eq_true'] at hr
        have hx' : x ∈ pre.filter (fun i => !memN i F.2.1) := List.mem_filter.2 ⟨hx, by rw [hr.1]; rfl⟩
        unfold projF at hpr
        simp only [List.filter_append, List.filter_cons, hr.2, Bool.not_false, if_true] at hpr
        cases hpp : pre.filter (fun i => !memN i F.2.1) with
        | nil => rw [hpp] at hx'; cases hx'
        | cons y r =>
          rw [hpp] at hpr
          simp only [List.cons_append, List.cons.injEq] at hpr
          have hy : y ∈ pre := (List.mem_filter.1 (by rw [hpp]; exact List.mem_cons_self .. : y ∈ pre.filter (fun i => !memN i F.2.1))).1
          exact hn2.2.2 y hy i (List.mem_cons_self ..) hpr.1
    have h' : wpL P ops Q F ((i, ops.getD i default) :: (opl ops pre ++ opl ops post)) a w := by
      refine wpL_front hQ (opl ops pre) a ?_ ?_
      · intro x hx
        obtain ⟨k, hk, rfl⟩ := List.mem_map.1 hx
        exact hpre k hk
      · have : opl ops (pre ++ i :: post) = opl ops pre ++ (i, ops.getD i default) :: opl ops post := by simp [opl]
        rw [← this]; exact h
    rw [hod] at h'
    have hpr' : projF F.2.1 (pre ++ post) = projF F.2.1 (goL ops fuel t' (listed.setIfInBounds i true) []) := by
      unfold projF at hpr ⊢
      rw [List.filter_append, List.filter_cons] at hpr
      rw [List.filter_cons] at hpr
      rw [List.filter_append]
      cases hfi : memN i F.2.1
      · rw [hfi] at hpr
        have hpp : pre.filter (fun i => !memN i F.2.1) = [] := by
          cases hpp : pre.filter (fun i => !memN i F.2.1) with
          | nil => rfl
          | cons y r =>
            exfalso
            rw [hpp] at hpr
            simp only [List.cons_append, Bool.not_false, if_true, List.cons.injEq] at hpr
            have hy : y ∈ pre := (List.mem_filter.1 (by rw [hpp]; exact List.mem_cons_self .. : y ∈ pre.filter (fun i => !memN i F.2.1))).1
            exact hn2.2.2 y hy i (List.mem_cons_self ..) hpr.1
        rw [hpp] at hpr ⊢
        simpa using hpr
      · rw [hfi] at hpr
        simpa using hpr
    have step : ∀ a' w', (∀ x, x < ops.size → x ≠ i → listed[x]? = some false → CellsK F.1 x w') → wpL P ops Q F (opl ops pre ++ opl ops post) a' w' → wpOps P ops Q (goL ops fuel t' (listed.setIfInBounds i true) []) a' w' := by
      intro a' w' hF' hk
      refine ih t' (listed.setIfInBounds i true) (pre ++ post) a' w' ?_ (by simpa using hs) hl' (down_next hif hi3 hdn) ?_ hpr' (by simpa [opl] using hk)
      · intro x hx hxl
        rw [Array.getElem?_setIfInBounds] at hxl
        split at hxl
        · split at hxl <;> cases hxl
        · rename_i hne; exact hF' x hx (fun e => hne e.symm) hxl
      · exact hp.rem (.inr fun x hx => (hpre x hx).1)
    unfold wpOp
    rw [ho]
    simp only
    rw [wpL] at h'
    split
    · rename_i hw
      rw [if_pos hw] at h'
      split at h'
      · obtain ⟨v, hv, h'⟩ := h'
        left
        unfold Oper.wp
        rw [hv w (hF i hi1 hif)]
        exact step _ _ (fun x hx _ hxl => hF x hx hxl) h'
      · exact h'.imp (Oper.wp_mono fun a' w' hh => step _ _ (by
          rcases hh.1 with e | hc
          · rw [e]; exact fun x hx _ hxl => hF x hx hxl
          · exact fun x hx _ hxl => CellsX.k (hunl x hx hxl) hc) hh.2) id
    · rename_i hw
      rw [if_neg hw] at h'
      exact step _ _ (fun x hx _ hxl => hF x hx hxl) h'
theorem WC.regionD {P : Program} {id : Nat} {ops : Array Oper} {Q : Exit → Act → World → Prop} {N : Nat} {E : Env} {w : World} (F : FF) (Ls : List (List Nat)) (hm : P.follows .mixedOrders = true) (hc : drawOK ops F.2.1 Ls F.2.2 = true) (hQ : NoPanic Q)
    (h : CellsX F.1 [] w.drew ∧ ∀ L ∈ Ls, WL P ops (opl ops L) Q F 0 N E w.drew) : WC P (.region id ops true) Q N E w := by
  intro fb a ha
  unfold drawOK at hc
  simp only [Bool.and_eq_true] at hc
  obtain ⟨⟨hB, hLs⟩, hcov⟩ := hc
  refine wp_region_draw fun t => ?_
  simp only [Region.schedule, hm, Bool.true_or, if_true]
  have hdn : ∀ k, k < ops.size → (Array.replicate ops.size false)[k]? = some true → ∀ j ∈ dirs ops k, (Array.replicate ops.size false)[j]? = some true := fun k hk h => by
    rw [Array.getElem?_replicate] at h
    split at h <;> simp at h
  have okL : ∀ L ∈ Ls, Left ops (Array.replicate ops.size false) ops.size L ∧ PairL ops F.2.1 F.2.2 L := fun L hL => by
    have hl := List.all_eq_true.1 hLs L hL
    unfold lstOK at hl
    simp only [Bool.and_eq_true] at hl
    obtain ⟨⟨⟨⟨hp, hn⟩, hl⟩, hlt⟩, hcv⟩ := hl
    refine ⟨⟨Nat.eq_of_beq_eq_true hl, nodupB_P hn, fun i => ⟨fun hi => ?_, fun hi => memN_iff.1 (List.all_eq_true.1 hcv i (List.mem_range.2 hi.1))⟩⟩, pairB_P hp⟩
    have := blt_lt (List.all_eq_true.1 hlt i hi)
    exact ⟨this, by simp [this]⟩
  have hU : ∃ L0, L0 ∈ Ls := by
    cases hE : Ls with
    | nil => rw [hE] at hcov; exact absurd rfl (covB_ne hcov)
    | cons L r => exact ⟨L, List.mem_cons_self ..⟩
  obtain ⟨L0, hL0⟩ := hU
  have hin := covered (fl := F.2.1) hB ops.size ops.size t (Array.replicate ops.size false) L0 (Ls.map (projF F.2.1)) (by simp) (Nat.le_refl _) (okL L0 hL0).1 hdn (fun Pp hPp => by
    obtain ⟨L, hL, rfl⟩ := List.mem_map.1 hPp
    have h1 := (okL L hL).1
    refine ⟨h1.nd.filter _, fun i => ?_⟩
    unfold projF
    rw [List.mem_filter, h1.mem, (okL L0 hL0).1.mem]
    simp) hcov
  obtain ⟨L, hL, he⟩ := List.mem_map.1 hin
  have h1 := okL L hL
  exact lin_of hQ hB ops.size t _ L a _ (fun x _ _ => CellsX.k rfl h.1) (by simp) h1.1 hdn h1.2 he (h.2 L hL fb a ha)
/-! ### 13. stores into a row of one's own -/
def wrsE (A : Option Addr) (i : Int) (sz : Nat) (ws : List (Nat × Value)) : List (Addr × Value) := ws.map fun p => (((adr A).add (i.toNat * sz)).add p.1, p.2)
def wrl (l : List Value) (ws : List (Nat × Value)) : List Value := ws.foldl (fun c p => c.set p.1 p.2) l
theorem wrl_mid (a b : List Value) : ∀ (ws : List (Nat × Value)) (m : List Value), (∀ p ∈ ws, p.1 < m.length) → wrl (a ++ m ++ b) (ws.map fun p => (a.length + p.1, p.2)) = a ++ wrl m ws ++ b
  | [], m, _ => rfl
  | p :: ws, m, h => by
    have hp := h p (List.mem_cons_self ..)
    simp only [wrl, List.map_cons, List.foldl_cons]
    have e : (a ++ m ++ b).set (a.length + p.1) p.2 = a ++ m.set p.1 p.2 ++ b := by
      rw [List.append_assoc, List.set_append_right _ _ (by omega), List.append_assoc]
      rw [show a.length + p.1 - a.length = p.1 from by omega, List.set_append_left _ _ hp]
    rw [e]
    exact wrl_mid a b ws (m.set p.1 p.2) (fun q hq => by simpa using h q (List.mem_cons_of_mem _ hq))
theorem addr_plain (g j : Nat) : (⟨g, 0, none⟩ : Addr).add j = ⟨g, j, none⟩ := by unfold Addr.add; split <;> simp_all
theorem wrc_size : ∀ (ws : List (Nat × Value)) (cs : Array Value), (wrc cs ws).size = cs.size
  | [], _ => rfl
  | p :: ws, cs => by
    simp only [wrc, List.foldl_cons]
    have := wrc_size ws (cs.setIfInBounds p.1 p.2)
    simp only [wrc, Array.size_setIfInBounds] at this
    exact this
theorem wrc_list : ∀ (ws : List (Nat × Value)) (cs : Array Value), (wrc cs ws).toList = wrl cs.toList ws
  | [], _ => rfl
  | p :: ws, cs => by
    simp only [wrc, wrl, List.foldl_cons]
    have := wrc_list ws (cs.setIfInBounds p.1 p.2)
    simp only [wrc, wrl, Array.toList_setIfInBounds] at this
    exact this
theorem flat_set {α : Type} (e : Enc α) (xs : List α) (i : Nat) (x d : α) (hi : i < xs.length) (ws : List (Nat × Value)) (hws : ∀ p ∈ ws, p.1 < e.sz) (hx : wrl (e.enc (xs.getD i d)) ws = e.enc x) (sp : List Value) :
    wrl (xs.flatMap e.enc ++ sp) (ws.map fun p => (i * e.sz + p.1, p.2)) = (xs.set i x).flatMap e.enc ++ sp := by
  have hs : xs = xs.take i ++ xs.getD i d :: xs.drop (i + 1) := by
    rw [List.getD_eq_getElem?_getD, List.getElem?_eq_getElem hi, Option.getD_some]
    rw [List.getElem_cons_drop, List.take_append_drop]
  have hset : xs.set i x = xs.take i ++ x :: xs.drop (i + 1) := by
    rw [List.set_eq_take_append_cons_drop, if_pos hi]
  have hlen : ((xs.take i).flatMap e.enc).length = i * e.sz := by rw [flat_len, List.length_take, Nat.min_eq_left (Nat.le_of_lt hi)]
  have h0 : xs.flatMap e.enc = (xs.take i ++ xs.getD i d :: xs.drop (i + 1)).flatMap e.enc := by rw [← hs]
  have h1 : xs.flatMap e.enc ++ sp = (xs.take i).flatMap e.enc ++ e.enc (xs.getD i d) ++ ((xs.drop (i + 1)).flatMap e.enc ++ sp) := by
    rw [h0, List.flatMap_append, List.flatMap_cons]
    simp only [List.append_assoc]
  have h2 := wrl_mid ((xs.take i).flatMap e.enc) ((xs.drop (i + 1)).flatMap e.enc ++ sp) ws (e.enc (xs.getD i d)) (fun p hp => by rw [e.len]; exact hws p hp)
  rw [hlen] at h2
  rw [h1, h2, hx, hset, List.flatMap_append, List.flatMap_cons]
  simp only [List.append_assoc]
theorem WL.storeRow {α : Type} {P : Program} {ops : Array Oper} {lst : List (Nat × Oper)} {Q : Exit → Act → World → Prop} {F : FF} {N : Nat} {i : Nat} {E : Env} {S : Nat → Prop} {w0 w : World} {R L : List Own} (hS : St S w0 w R L)
    (j : Nat) {e : Enc α} {T : TypeId} {A : Option Addr} {c : Nat} {xs : List α} (hj : at_ L j = rowO T e A c xs) (ix : Int) (x d : α) (ws : List (Nat × Value))
    (h : ∀ fb, evWi P ops lst F.2.1 fb i E = some (wrsE A ix e.sz ws)) (h0 : 0 ≤ ix) (h1 : ix < (xs.length : Int)) (hb' : (ws.all fun p => Nat.blt p.1 e.sz) = true) (hx : wrl (e.enc (rdD xs ix d)) ws = e.enc x) (ks : List Nat) (hd : ∀ k, k ∈ ks → k ∉ [j]) (hn : ks.Nodup)
    (k : ∀ w1, St S w0 w1 R (rowO T e A c (xs.set ix.toNat x) :: sel L ks) → CellsA F lst i w1 ∧ WL P ops lst Q F (i + 1) N E w1) : WL P ops lst Q F i N E w := by
  have hws : ∀ p ∈ ws, p.1 < e.sz := fun p hp => blt_lt (List.all_eq_true.1 hb' p hp)
  have hlt : ix.toNat < xs.length := by omega
  have hown : (rowO T e A c xs).ok w := by have := (hS.own j).1; rw [hj] at this; exact this
  have hown' : w.ownsRow 0 T e.sz (.slice A xs.length c) xs.length (xs.flatMap e.enc) := hown
  rcases hown'.2 with ⟨_, h0'⟩ | ⟨g, cap, cur, hv, _, hg, hnc, hcm, hcs, htk⟩
  · omega
  · injection hv with hv _ hc
    subst hv hc
    intro fb a ha
    refine evWi_run ha (h fb) fun o he => ?_
    have hcells : cur.toList = xs.flatMap e.enc ++ cur.toList.drop (xs.length * e.sz) := by rw [← htk, List.take_append_drop]
    have he' : evW P (execOp (rho E fb) o) = some (.skip, wrs g (ws.map fun p => (ix.toNat * e.sz + p.1, p.2))) := by
      rw [he]
      congr 2
      unfold wrsE wrs
      rw [List.map_map]
      apply List.map_congr_left
      intro p _
      simp only [Function.comp, adr, Option.getD_some]
      rw [add_add, addr_plain]
    have hb : ∀ p ∈ ws.map (fun p => (ix.toNat * e.sz + p.1, p.2)), p.1 < cur.size := by
      intro p hp
      obtain ⟨q, hq, rfl⟩ := List.mem_map.1 hp
      have hq' := hws q hq
      show ix.toNat * e.sz + q.1 < cur.size
      rw [hcs]
      have : (ix.toNat + 1) * e.sz ≤ c * e.sz := Nat.mul_le_mul_right _ (by omega)
      rw [Nat.add_mul] at this
      omega
    obtain ⟨w', hr, hg', hk', hs'⟩ := evW_run _ he' hg hb
    have hfl := flat_set e xs ix.toNat x d hlt ws hws hx (cur.toList.drop (xs.length * e.sz))
    have hlist : (wrc cur (ws.map fun p => (ix.toNat * e.sz + p.1, p.2))).toList = (xs.set ix.toNat x).flatMap e.enc ++ cur.toList.drop (xs.length * e.sz) := by
      rw [← hcells] at hfl
      rw [wrc_list, hfl]
    have hok : (rowO T e (some ⟨g, 0, none⟩) c (xs.set ix.toNat x)).ok w' := by
      show w'.ownsRow 0 T e.sz (.slice (some ⟨g, 0, none⟩) (xs.set ix.toNat x).length c) (xs.set ix.toNat x).length ((xs.set ix.toNat x).flatMap e.enc)
      refine ⟨flat_len e _, .inr ⟨g, c, _, rfl, Nat.zero_le _, hg', by simpa using hnc, hcm, ?_, ?_⟩⟩
      · rw [wrc_size, hcs]
      · rw [hlist, ← flat_len e, List.take_left]
    have hS' : St (ownFp (some ⟨g, 0, none⟩)) w w' [] [rowO T e (some ⟨g, 0, none⟩) c (xs.set ix.toNat x)] := St.one ⟨hk'.os, hk'.tape, hk'.output, hk'.size, fun k hk hn => hk'.block k hk (fun e => hn ⟨_, rfl, e⟩)⟩ hok (fun k hk => by
      obtain ⟨ad, had, rfl⟩ := hk
      injection had with had
      subst had
      exact ⟨.inl ⟨_, rfl, rfl⟩, by rw [hs']; exact (Array.getElem?_eq_some_iff.1 hg).1⟩)
    exact ⟨w', hr, k w' (hS.call hS' [j] ks (fun k hk => ⟨j, by simp, by rw [hj]; exact hk⟩) hd hn)⟩
theorem forallN {p : List Nat → Prop} : ∀ x ∈ ([] : List (List Nat)), p x := fun _ h => by cases h
theorem forallC {p : List Nat → Prop} {L : List Nat} {r : List (List Nat)} (h : p L) (k : ∀ x ∈ r, p x) : ∀ x ∈ L :: r, p x := fun x hx => by
  rcases List.mem_cons.1 hx with rfl | hx
  · exact h
  · exact k x hx
end Gw
namespace Gw
open Go Go.RowKit Go.Deep
/-! ### opening what the statement gives -/
theorem cell_lt {w : World} {a : Addr} {v : Value} (h : w.cell? a = some v) : a.block < w.heap.size := by
  unfold World.cell? at h
  split at h
  · rename_i c e f hh
    exact (Array.getElem?_eq_some_iff.1 hh).1
  · cases h
structure Opens {α : Type} (P : Program) (t : TypeId) (e : Enc α) (ok : α → Prop) : Prop where
  sz : P.cellsOf t = e.sz
  pos : 0 < e.sz
  get : ∀ {H : Type} {enc : TypeId × Value → H} {w : World} {base : Nat} {spare : Nat → Bool} {held : Bool} {fuel : Nat} {cs : List Value} {x : DataW H × List MemPlace},
    DataW.trod enc P w base spare held fuel t cs = some x → ∃ a, cs = e.enc a ∧ ok a
def ok64 (n : Int) : Prop := -9223372036854775808 ≤ n ∧ n ≤ 9223372036854775807
theorem opn_int {H : Type} {enc : TypeId × Value → H} {P : Program} {w : World} {base : Nat} {spare : Nat → Bool} {held : Bool} {fuel : Nat} {t : TypeId} {kd : IntKind} {cs : List Value} {x : DataW H × List MemPlace} (ht : P.underlying t = some (.int kd))
    (h : DataW.trod enc P w base spare held fuel t cs = some x) : ∃ n, cs = [.int kd n] ∧ (Lit.int kd n).wf = true := by
  cases fuel with
  | zero => simp [DataW.trod] at h
  | succ n =>
    unfold DataW.trod at h
    rw [ht] at h
    split at h <;> simp_all
theorem opn_bool {H : Type} {enc : TypeId × Value → H} {P : Program} {w : World} {base : Nat} {spare : Nat → Bool} {held : Bool} {fuel : Nat} {t : TypeId} {cs : List Value} {x : DataW H × List MemPlace} (ht : P.underlying t = some .bool)
    (h : DataW.trod enc P w base spare held fuel t cs = some x) : ∃ b, cs = [.bool b] := by
  cases fuel with
  | zero => simp [DataW.trod] at h
  | succ n =>
    unfold DataW.trod at h
    rw [ht] at h
    split at h <;> simp_all
theorem wf64 {n : Int} (h : (Lit.int .i64 n).wf = true) : ok64 n := by simpa [Lit.wf, IntKind.min, IntKind.max, IntKind.signed, IntKind.bits, ok64] using h
theorem opens_int {P : Program} {t : TypeId} (ht : P.underlying t = some (.int .i64)) (hc : P.cellsOf t = 1) : Opens P t encInt ok64 :=
  ⟨hc, Nat.one_pos, fun h => by obtain ⟨n, h1, h2⟩ := opn_int ht h; exact ⟨n, h1, wf64 h2⟩⟩
theorem opens_bool {P : Program} {t : TypeId} (ht : P.underlying t = some .bool) (hc : P.cellsOf t = 1) : Opens P t encBool (fun _ => True) :=
  ⟨hc, Nat.one_pos, fun h => by obtain ⟨n, h1⟩ := opn_bool ht h; exact ⟨n, h1, trivial⟩⟩
theorem list_of {α : Type} {p : Nat → α → Prop} : ∀ n, (∀ i, i < n → ∃ a, p i a) → ∃ xs : List α, xs.length = n ∧ ∀ (i : Nat) (a : α), xs[i]? = some a → p i a
  | 0, _ => ⟨[], rfl, fun i a h => by simp at h⟩
  | n + 1, h => by
    obtain ⟨xs, h1, h2⟩ := list_of n fun i hi => h i (Nat.lt_succ_of_lt hi)
    obtain ⟨a, ha⟩ := h n (Nat.lt_succ_self n)
    refine ⟨xs ++ [a], by simp [h1], fun i b hb => ?_⟩
    by_cases hi : i < xs.length
    · rw [List.getElem?_append_left hi] at hb; exact h2 i b hb
    · have hl := (List.getElem?_eq_some_iff.1 hb).1
      simp at hl
      have : i = xs.length := by omega
      subst this
      rw [List.getElem?_append_right (Nat.le_refl _)] at hb
      simp at hb; subst hb; rw [h1]; exact ha
theorem opn_row {α : Type} {e : Enc α} {ok : α → Prop} {H : Type} {enc : TypeId × Value → H} {P : Program} {w : World} {base : Nat} {spare : Nat → Bool} {held : Bool} {fuel : Nat} {t et : TypeId} {cs : List Value} {x : DataW H × List MemPlace}
    (ht : P.underlying t = some (.slice et)) (O : Opens P et e ok) (h : DataW.trod enc P w base spare held fuel t cs = some x) :
    ∃ A c xs, cs = [.slice A xs.length c] ∧ RO NoS w (rowR e A c xs) ∧ (∀ a ∈ xs, ok a) ∧ xs.length ≤ maxLen := by
  rcases open_slice ht h with ⟨rfl, _⟩ | ⟨a, len, cap, m, n, D, Pl, rfl, hb, hl, hm, hmm, rfl, hx⟩
  · exact ⟨none, 0, [], rfl, RO.nilR _ _ _, fun a h => (by simp at h), Nat.zero_le _⟩
  · have hlm : len ≤ m := by rw [hmm]; split <;> omega
    obtain ⟨xs, h1, h2⟩ := list_of (p := fun i a' => w.cells? base (a.add (i * P.cellsOf et)) (P.cellsOf et) = some (e.enc a') ∧ ok a') len (fun i hi => by
      obtain ⟨cs', h3, h4⟩ := hx i (by omega)
      obtain ⟨a', rfl, h5⟩ := O.get h4
      exact ⟨a', h3, h5⟩)
    subst h1
    have hcell : ∀ j x, xs[j]? = some x → ∀ k v, (e.enc x)[k]? = some v → w.cell? ((a.add (j * e.sz)).add k) = some v := fun j x hj k v hv => by
      obtain ⟨h3, _⟩ := h2 j x hj
      obtain ⟨_, h4, h5⟩ := World.cells?_some h3
      have hk := (List.getElem?_eq_some_iff.1 hv).1
      rw [← O.sz, h5 k (by rw [← h4]; exact hk)]; exact hv
    refine ⟨some a, cap, xs, rfl, ⟨⟨fun j x hj => ⟨rfl, hcell j x hj⟩, hl⟩, fun g hg => ⟨?_, id⟩⟩, fun b hb => ?_, Nat.le_trans hl hm⟩
    · obtain ⟨hne, rfl⟩ := hg
      cases xs with
      | nil => exact absurd rfl hne
      | cons y ys =>
        have hp : 0 < (e.enc y).length := by rw [e.len]; exact O.pos
        have := cell_lt (hcell 0 y rfl 0 _ (List.getElem?_eq_getElem hp))
        simpa [adr, adr_add_block] using this
    · obtain ⟨i, hi⟩ := List.mem_iff_getElem?.1 hb
      exact (h2 i b hi).2
theorem Keeps.grown {w w' : World} (h : Keeps NoS w w') : Below w.heap.size w w' := h.below
theorem opn_fields {H : Type} {enc : TypeId × Value → H} {P : Program} {w : World} {base : Nat} {spare : Nat → Bool} {held : Bool} {fuel : Nat} {t : TypeId} {fs : Array Field} {cs : List Value} {x : DataW H × List MemPlace} (ht : P.underlying t = some (.struct fs))
    (h : DataW.trod enc P w base spare held fuel t cs = some x) : cs.length = P.cellsOf t ∧ ∃ n, ∀ (i : Nat) (f : Field) (z : Nat), fs[i]? = some f → P.cellsOf f.type = z → ∃ y, DataW.trod enc P w base spare held n f.type ((cs.drop f.offset).take z) = some y := by
  obtain ⟨xs, n, _, _, hl, hx, hi⟩ := DataW.trod_struct ht h
  refine ⟨hl, n, fun i f z hf hz => ?_⟩
  subst hz
  have := hi i f hf
  have hlt := (Array.getElem?_eq_some_iff.1 hf).1
  rw [this]
  exact ⟨_, List.getElem?_eq_getElem (by rw [hx]; exact hlt)⟩
theorem cons_of {α : Type} {l : List α} {n : Nat} (h : l.length = n + 1) : ∃ a r, l = a :: r ∧ r.length = n := by
  cases l with
  | nil => simp at h
  | cons a r => exact ⟨a, r, rfl, by simpa using h⟩
end Gw
