/- A small framework for walks: frames as lists, operations run by the kernel. -/
import Derived.Test.YtdjkmioemobdbaaGreatProg
import Derived.Deep.Slices
import Derived.Carry
import Derived.Maps.Keyed
import Derived.OpenShut
import Derived.Maps.AppendAt
import Derived.Laws.StructEq
import Derived.WalkKit
import Derived.ChangeKeysEq
import Derived.RangeFuncLeaves
import Derived.RangeFuncNested
import Derived.OrdersIn
set_option linter.unusedVariables false
set_option linter.unusedSimpArgs false
namespace Gw
open Go Go.RowKit
/-! ### 0. code in whatever frame: a function's, or a round's -/
abbrev FW (ro : Option Nat) : Fence := { fn := fun _ => True, depth := none, alive := false, round := ro }
theorem fencedFW (P : Program) (ro : Option Nat) (m : Machine) : m.fenced P (FW ro) := fenced_wide P m
def upA (P : Program) (o : Oper) (a : Act) (next : Act → World → Prop) (Q : Exit → Act → World → Prop) : Result Next → Prop
 | .ok (.value v) w' => next (a.put o.dst v) w'
 | .ok .skip w' => next (a.put o.dst undef) w'
 | .ok (.enter f args) w' => Calls P f args w' fun
   | .returned v, w'' => next (a.put o.dst v) w''
   | _, _ => False
 | .ok (.round l f tmps assign body) w' => RoundIn (FW none) 0 P l f tmps assign body w' fun
   | .returned v, w'' => next (a.put o.dst v) w''
   | _, _ => False
 | _ => False
def _root_.Go.Oper.wpA (P : Program) (o : Oper) (a : Act) (w : World) (next : Act → World → Prop) (Q : Exit → Act → World → Prop) : Prop := upA P o a next Q ((execOp a.eval o).run P w)
theorem defer_run {P : Program} {w : World} {ρ : Operand → Value} {o : Oper} {c : Call} (ho : o.op = .defer c) : (∃ d w', (execOp ρ o).run P w = .ok (.defer d) w') ∨ ∃ h w', (execOp ρ o).run P w = .halt h w' := by
 unfold execOp
 rw [ho]
 simp only [Sem.run_bind]
 cases (resolve ρ c o.type).run P w with
 | ok d w' => exact .inl ⟨d, w', rfl⟩
 | halt h w' => exact .inr ⟨h, w', rfl⟩
def noOut (Q : Exit → Act → World → Prop) : Exit → Act → World → Prop
 | .outgrown, _, _ => False
 | e, a, w => Q e a w
def markA (l : Nat) : Act := { tmps := #[], defers := [{ target := .collected l, args := #[] }] }
def roQ (Q : Exit → Act → World → Prop) : Option Nat → Prop
 | none => ∀ l w, ¬ Q .outgrown (markA l) w
 | some l => ∃ w, Q .outgrown (markA l) w
theorem opA_in {P : Program} {o : Oper} {a : Act} {w : World} {K : Act → World → Prop} {Q : Exit → Act → World → Prop} (h : o.wpA P a w K Q) (ro : Option Nat) : o.wpIn (FW ro) 0 P a w K (noOut Q) := by
 refine ⟨fun _ _ => trivial, ?_⟩
 have hnd : ∀ c, o.op ≠ .defer c := by
  intro c ho
  rcases defer_run (P := P) (w := w) (ρ := a.eval) ho with ⟨d, w', e⟩ | ⟨x, w', e⟩
  ·unfold Oper.wpA at h; rw [e] at h; exact h
  ·unfold Oper.wpA at h; rw [e] at h; exact h
 rw [Oper.semAt_eq _ _ _ hnd]
 unfold Oper.wpA at h
 generalize (execOp a.eval o).run P w = r at h ⊢
 cases r with
 | ok n w' =>
  cases n <;> simp only [upA] at h <;> simp only [Oper.uponIn]
  case value u => exact h
  case skip => exact h
  case enter f args =>
   refine ⟨fun hh => by simp at hh, ?_⟩
   have := (callsIn_wide (n := 0 - 1)).2 h
   exact CallsIn.mono (F := FW ro) this (fun e w'' he => by cases e <;> first | exact he | exact he.elim)
  case round l f tmps assign body =>
   refine ⟨fun hh => by simp at hh, ?_⟩
   have : RoundIn (FW ro) (0 - 1) P l f tmps assign body w' _ := h
   exact this.mono (fun e w'' he => by cases e <;> first | exact he | exact he.elim)
  all_goals exact h.elim
 | halt x w' => exact h.elim
theorem opA_mono {P : Program} {o : Oper} {a : Act} {w : World} {K K' : Act → World → Prop} {Q : Exit → Act → World → Prop} (hk : ∀ a w, K a w → K' a w) (h : o.wpA P a w K Q) : o.wpA P a w K' Q := by
 unfold Oper.wpA at *
 generalize (execOp a.eval o).run P w = r at h ⊢
 cases r with
 | ok n w' =>
  cases n <;> simp only [upA] at h ⊢
  case value u => exact hk _ _ h
  case skip => exact hk _ _ h
  case enter f args => exact Calls.mono h (fun e w'' he => by cases e <;> first | exact hk _ _ he | exact he)
  case round l f tmps assign body => exact RoundIn.mono h (fun e w'' he => by cases e <;> first | exact hk _ _ he | exact he)
 | halt x w' => exact h
def _root_.Go.Code.wpA (c : Code) (P : Program) (Q : Exit → Act → World → Prop) (a : Act) (w : World) : Prop := ∀ ro, roQ Q ro → c.wpIn (FW ro) 0 P (noOut Q) a w
def NoPanic (Q : Exit → Act → World → Prop) : Prop := ∀ c a w, ¬ Q (.panic c) a w
theorem NoPanic.seq {K : Act → World → Prop} {Q : Exit → Act → World → Prop} (h : NoPanic Q) : NoPanic (Exit.then K Q) := fun c a w => h c a w
theorem NoPanic.block {id : Nat} {Q : Exit → Act → World → Prop} (h : NoPanic Q) : NoPanic (Exit.inBlock id Q) := fun c a w => h c a w
def wpOpsA (P : Program) (ops : Array Oper) (Q : Exit → Act → World → Prop) : List Nat → Act → World → Prop
 | [], a, w => Q .normal a w
 | i :: rest, a, w =>
  match ops[i]? with
  | none => wpOpsA P ops Q rest a w
  | some o => if Region.wanted o (yielded ops a.tmps) then o.wpA P a w (wpOpsA P ops Q rest) Q else wpOpsA P ops Q rest (a.put o.dst undef) w
def wpOpA (P : Program) (ops : Array Oper) (Q : Exit → Act → World → Prop) (i : Nat) (K : Act → World → Prop) (a : Act) (w : World) : Prop :=
 match ops[i]? with
 | none => K a w
 | some o => if Region.wanted o (yielded ops a.tmps) then o.wpA P a w K Q else K (a.put o.dst undef) w
theorem wpOpsA_cons {P : Program} {ops : Array Oper} {Q : Exit → Act → World → Prop} (i : Nat) (rest : List Nat) (a : Act) (w : World) : wpOpsA P ops Q (i :: rest) a w = wpOpA P ops Q i (wpOpsA P ops Q rest) a w := by
 cases h : ops[i]? <;> simp [wpOpsA, wpOpA, h]
theorem opsA_in {P : Program} {ops : Array Oper} {Q : Exit → Act → World → Prop} (ro : Option Nat) : ∀ (l : List Nat) (a : Act) (w : World), wpOpsA P ops Q l a w → wpOpsIn (FW ro) 0 P ops (noOut Q) l a w := by
 intro l
 induction l with
 | nil => intro a w h; exact h
 | cons i l ih =>
  intro a w h
  unfold wpOpsA at h
  unfold wpOpsIn
  split
  ·rename_i ho; rw [ho] at h; exact ih a w h
  ·rename_i o ho
   rw [ho] at h
   simp only at h
   split
   ·rename_i hw
    rw [if_pos hw] at h
    exact Oper.wpIn_mono (fun a w h => ih a w h) (opA_in h ro)
   ·rename_i hw
    rw [if_neg hw] at h
    exact ⟨fun _ _ => trivial, ih _ _ h⟩
theorem wpA_region_draw {P : Program} {id : Nat} {ops : Array Oper} {Q : Exit → Act → World → Prop} {a : Act} {w : World} (h : ∀ t, wpOpsA P ops Q (Region.schedule (P.follows .mixedOrders) ops t) a { w with drawn := w.drawn + 1 }) : (Code.region id ops true).wpA P Q a w :=
 fun ro _ => wpIn_region_draw fun t => opsA_in ro _ _ _ (h t)
def wpListA (P : Program) (ops : Array Oper) (Q : Exit → Act → World → Prop) : List Oper → Act → World → Prop
 | [], a, w => Q .normal a w
 | o :: rest, a, w => if Region.wanted o (yielded ops a.tmps) then o.wpA P a w (wpListA P ops Q rest) Q else wpListA P ops Q rest (a.put o.dst undef) w
theorem listA_in {P : Program} {ops : Array Oper} {Q : Exit → Act → World → Prop} (ro : Option Nat) : ∀ (l : List Oper) (a : Act) (w : World), wpListA P ops Q l a w → wpListIn (FW ro) 0 P ops (noOut Q) l a w := by
 intro l
 induction l with
 | nil => intro a w h; exact h
 | cons o l ih =>
  intro a w h
  unfold wpListA at h
  unfold wpListIn
  split
  ·rename_i hw
   rw [if_pos hw] at h
   exact Oper.wpIn_mono (fun a w h => ih a w h) (opA_in h ro)
  ·rename_i hw
   rw [if_neg hw] at h
   exact ⟨fun _ _ => trivial, ih _ _ h⟩
theorem wpA_region_list {P : Program} {id : Nat} {ops : Array Oper} {Q : Exit → Act → World → Prop} {a : Act} {w : World} (h : wpListA P ops Q ops.toList a w) : (Code.region id ops false).wpA P Q a w :=
 fun ro _ => wpIn_region_list (listA_in ro _ _ _ h)
theorem wpA_seq {P : Program} {x y : Code} {Q : Exit → Act → World → Prop} {a : Act} {w : World} (h : x.wpA P (Exit.then (y.wpA P Q) Q) a w) : (Code.seq x y).wpA P Q a w :=
 fun ro hr => wpIn_seq (wpIn_mono (h ro (by cases ro <;> exact hr)) (fun e a w he => by cases e <;> first | exact he ro hr | exact he))
theorem wpA_block {P : Program} {id : Nat} {c : Code} {Q : Exit → Act → World → Prop} {a : Act} {w : World} (h : c.wpA P (Exit.inBlock id Q) a w) : (Code.block id c).wpA P Q a w :=
 fun ro hr => wpIn_block (wpIn_mono (h ro (by cases ro <;> exact hr)) (fun e a w he => by
  cases e with
  | exit id' =>
   have he : Exit.inBlock id Q (.exit id') a w := he
   by_cases hid : id' = id
   ·simp only [Exit.inBlock, hid, if_true] at he ⊢; exact he
   ·simp only [Exit.inBlock, hid, if_false] at he ⊢; exact he
  | _ => exact he))
theorem wpA_skip {P : Program} {Q : Exit → Act → World → Prop} {a : Act} {w : World} (h : Q .normal a w) : Code.skip.wpA P Q a w := fun _ _ => wpIn_skip h
theorem wpA_ret {P : Program} {Q : Exit → Act → World → Prop} {a : Act} {w : World} (h : Q .ret a w) : Code.ret.wpA P Q a w := fun _ _ => wpIn_ret h
theorem wpA_exit {P : Program} {id : Nat} {Q : Exit → Act → World → Prop} {a : Act} {w : World} (h : Q (.exit id) a w) : (Code.exit id).wpA P Q a w := fun _ _ => wpIn_exit h
theorem wpA_cond_split {P : Program} {c : Operand} {x y : Code} {t : Bool} {Q : Exit → Act → World → Prop} {a : Act} {w : World} (hc : a.eval c = .bool t) (ht : t = true → x.wpA P Q a w) (hf : t = false → y.wpA P Q a w) : (Code.cond c x y).wpA P Q a w :=
 fun ro hr => wpIn_cond_split hc (fun e => ht e ro hr) (fun e => hf e ro hr)
theorem wpA_loop_ind {P : Program} {c : Code} {Q : Exit → Act → World → Prop} {a : Act} {w : World} (I : Nat → Act → World → Prop) (n : Nat) (h₀ : I n a w)
  (round : ∀ n a w, I n a w → c.wpA P (Exit.then (fun a' w' => ∃ m, m < n ∧ I m a' w') Q) a w) : (Code.loop c).wpA P Q a w := by
 intro ro hr b k cs hro hb hroom
 have key : ∀ n a w, I n a w → ∃ e a' w', noOut Q e a' w' ∧ ArrivesIn (Machine.fenced P (FW ro)) P (lone (b.atR a (.code c :: .inLoop c :: k)) cs w) b k cs e a' w' := by
  intro n
  induction n using Nat.strongRecOn with
  | _ n ih =>
   intro a w hI
   obtain ⟨e, a₁, w₁, hq, harr⟩ := round n a w hI ro (by cases ro <;> exact hr) b (.inLoop c :: k) cs hro hb hroom
   cases e with
   | normal =>
    obtain ⟨m, hlt, hI₁⟩ := hq
    obtain ⟨e₂, a₂, w₂, hq₂, harr₂⟩ := ih m hlt a₁ w₁ hI₁
    exact ⟨e₂, a₂, w₂, hq₂, .of_steps (StepsIn.trans harr (.one (fencedFW P ro _) stepR_inLoop)) harr₂⟩
   | exit id => exact ⟨.exit id, a₁, w₁, hq, .pass (x := .inLoop c) rfl (fun _ _ => .inl (by simp)) harr⟩
   | goto l => exact ⟨.goto l, a₁, w₁, hq, .pass (x := .inLoop c) rfl (fun _ _ => .inl (by simp)) harr⟩
   | ret => exact ⟨.ret, a₁, w₁, hq, .pass (x := .inLoop c) rfl (fun _ _ => .inl (by simp)) harr⟩
   | panic ch => exact ⟨.panic ch, a₁, w₁, hq, .pass (x := .inLoop c) rfl (fun _ _ => .inl (by simp)) harr⟩
   | outgrown => exact hq.elim
 obtain ⟨e, a', w', hq, harr⟩ := key n a w h₀
 exact ⟨e, a', w', hq, .of_steps (.one (fencedFW P ro _) stepR_loop) harr⟩
/-! scopes -/
/-! the end of a function -/
def bodyPostA (P : Program) (fn : Func) (R : Ending → World → Prop) : Exit → Act → World → Prop
 | .normal, a, w | .ret, a, w => (a.defers = [] ∧ ∃ v, (results fn a.tmps).run P w = .ok v w ∧ R (.returned v) w) ∨
   (∃ D w', a.defers = [{ target := .collected D, args := #[] }] ∧ (Instr.takeDeferred D).run P w = .ok [] w' ∧ ∃ v, (results fn a.tmps).run P w' = .ok v w' ∧ R (.returned v) w')
 | _, _, _ => False
theorem postA_M {P : Program} {fn : Func} {R : Ending → World → Prop} {e : Exit} {a : Act} {w : World} (h : noOut (bodyPostA P fn R) e a w) : bodyPostM (FW none) 0 P fn R e a w := by
 have key : ∀ (a : Act) (w : World), (a.defers = [] ∧ ∃ v, (results fn a.tmps).run P w = .ok v w ∧ R (.returned v) w) ∨
   (∃ D w', a.defers = [{ target := .collected D, args := #[] }] ∧ (Instr.takeDeferred D).run P w = .ok [] w' ∧ ∃ v, (results fn a.tmps).run P w' = .ok v w' ∧ R (.returned v) w') → LeavesInM (FW none) 0 P fn a.tmps R a.defers .returning w := by
  intro a w h
  rcases h with ⟨hd, v, h1, h2⟩ | ⟨D, w', hd, ht, v, h1, h2⟩
  ·rw [hd]; exact ⟨v, h1, h2⟩
  ·rw [hd]; exact ⟨by simp, .inl ⟨D, w', rfl, ht, v, h1, h2⟩⟩
 cases e with
 | normal => exact key a w h
 | ret => exact key a w h
 | _ => exact h.elim
theorem calls_of_wpA {P : Program} {f : FuncId} {fn : Func} {c : Code} {args : Array Value} {w : World} {R : Ending → World → Prop} (hf : P.funcs[f]? = some fn) (hb : fn.body = some c)
  (h : c.wpA P (bodyPostA P fn R) { tmps := args ++ Array.replicate (fn.ntmps - args.size) undef, defers := [] } w) : Calls P f args w R :=
 (callsIn_wide (n := 0)).1 (callsIn_of_wp_marks (F := FW none) (n := 0) hf hb trivial (wpIn_mono (h none (fun _ _ h => h)) (fun e a w he => postA_M he)))
end Gw
namespace Gw
open Go Go.RowKit

/-! ### 1. environments -/
abbrev Env := List (Nat × Value)
def lk : Env → Nat → Option Value
 | [], _ => none
 | (k, v) :: r, i => bif Nat.beq k i then some v else lk r i
def MK : Nat := 4294967295
def memK (n : Nat) : List Nat → Bool
 | [] => false
 | k :: r => bif Nat.beq k n then true else memK n r
def rho (E : Env) (fb : Operand → Value) : Operand → Value
 | .tmp t => bif Nat.beq t MK then fb (.tmp t) else match lk E t with
  | some v => v
  | none => fb (.tmp t)
 | .const v => v
 | .global g => .pointer (some ⟨g, 0, none⟩)
 | .func f => .func (.func f) #[] #[]
structure Has (N : Nat) (E : Env) (fb : Operand → Value) (a : Act) : Prop where
 size : a.tmps.size = N
 le : N ≤ MK
 dfr : match lk E MK with
  | none => a.defers = []
  | some (.func (.yield D) _ _) => a.defers = [{ target := .collected D, args := #[] }]
  | some _ => False
 ev : a.eval = rho E fb
theorem beq_no {a b : Nat} (h : a ≠ b) : Nat.beq a b = false := by
 cases hb : Nat.beq a b
 ·rfl
 ·exact absurd (Nat.eq_of_beq_eq_true hb) h
theorem Has.get {N : Nat} {E : Env} {fb : Operand → Value} {a : Act} (h : Has N E fb a) (t : Nat) {v : Value} (hv : lk E t = some v) (hw : ∀ D b c, v ≠ .func (.yield D) b c) : a.tmps.getD t undef = v := by
 have hne : t ≠ MK := fun e => by
  have := h.dfr
  rw [← e, hv] at this
  split at this
  ·rename_i e2; cases e2
  ·rename_i D b c e2; injection e2 with e2; exact hw D b c e2
  ·exact this
 have := congrFun h.ev (.tmp t)
 simpa [Act.eval, rho, hv, beq_no hne] using this
theorem getD_set (a : Array Value) (d t : Nat) (v : Value) (hd : d < a.size) : (a.setIfInBounds d v).getD t undef = if d = t then v else a.getD t undef := by
 simp only [Array.getD_eq_getD_getElem?, Array.getElem?_setIfInBounds]
 split
 ·subst_vars; simp [hd]
 ·rfl
theorem Has.put {N : Nat} {E : Env} {fb : Operand → Value} {a : Act} (h : Has N E fb a) {d : Nat} (hd : d < N) (v : Value) : Has N ((d, v) :: E) fb (a.put (some d) v) := by
 have hne : d ≠ MK := fun e => by have := h.le; omega
 refine ⟨by simp [Act.put, h.size], h.le, ?_, funext fun x => ?_⟩
 ·have e1 : lk ((d, v) :: E) MK = lk E MK := by simp only [lk, beq_no hne, cond_false]
  rw [e1]; exact h.dfr
 cases x with
 | tmp t =>
  have := congrFun h.ev (.tmp t)
  simp only [Act.eval, Act.put, rho, lk] at this ⊢
  rw [getD_set _ _ _ _ (by rw [h.size]; exact hd)]
  by_cases e : d = t
  ·subst e; simp [beq_no hne]
  ·simp only [e, if_false, beq_no e, cond_false]
   exact this
 | const v => rfl
 | global g => rfl
 | func f => rfl
theorem lk_same {E : Env} {d : Nat} {v : Value} (h : lk E d = some v) (t : Nat) : lk ((d, v) :: E) t = lk E t := by
 simp only [lk]
 cases hb : Nat.beq d t
 ·rfl
 ·have := Nat.eq_of_beq_eq_true hb; subst this; simp [h]
theorem Has.nodfr {N : Nat} {E : Env} {fb : Operand → Value} {a : Act} (h : Has N E fb a) (hm : lk E MK = none) : a.defers = [] := by
 have := h.dfr
 rw [hm] at this; exact this
theorem Has.putn {N : Nat} {E : Env} {fb : Operand → Value} {a : Act} (h : Has N E fb a) (v : Value) : Has N E fb (a.put none v) := h
theorem Has.weak {N : Nat} {E : Env} {fb : Operand → Value} {a : Act} (h : Has N E fb a) {E' : Env} (hs : ∀ t v, lk E' t = some v → lk E t = some v) (hm : lk E' MK = lk E MK) : Has N E' a.eval a := by
 refine ⟨h.size, h.le, by rw [hm]; exact h.dfr, funext fun x => ?_⟩
 cases x with
 | tmp t =>
  simp only [rho]
  cases hb : Nat.beq t MK
  ·simp only [cond_false]
   split
   ·rename_i v hv
    have := congrFun h.ev (.tmp t)
    rw [this]; simp [rho, hs t v hv, hb]
   ·rfl
  ·rfl
 | const v => rfl
 | global g => rfl
 | func f => rfl
def pick0 (E : Env) : List Nat → Option Env
 | [] => some []
 | k :: r => match lk E k, pick0 E r with
  | some v, some R => some ((k, v) :: R)
  | _, _ => none
def someB {α : Type} : Option α → Bool
 | none => false
 | some _ => true
def pick (E : Env) (ks : List Nat) : Option Env := bif someB (lk E MK) && !memK MK ks then none else pick0 E ks
theorem pick0_sub {E : Env} : ∀ {ks : List Nat} {E' : Env}, pick0 E ks = some E' → ∀ t v, lk E' t = some v → lk E t = some v
 | [], E', h, t, v, hv => by simp [pick0] at h; subst h; simp [lk] at hv
 | k :: r, E', h, t, v, hv => by
  simp only [pick0] at h
  split at h
  ·rename_i u R h1 h2
   injection h with h; subst h
   simp only [lk] at hv
   cases hb : Nat.beq k t
   ·rw [hb] at hv; exact pick0_sub h2 t v hv
   ·rw [hb] at hv
    have := Nat.eq_of_beq_eq_true hb; subst this
    simpa [h1] using hv
  ·cases h
theorem pick0_mem {E : Env} {n : Nat} : ∀ {ks : List Nat} {E' : Env}, pick0 E ks = some E' → memK n ks = true → lk E' n = lk E n
 | [], E', h, hm => by cases hm
 | k :: r, E', h, hm => by
  simp only [pick0] at h
  split at h
  ·rename_i u R h1 h2
   injection h with h; subst h
   simp only [lk]
   cases hb : Nat.beq k n
   ·simp only [memK, hb, cond_false] at hm
    simpa using pick0_mem h2 hm
   ·have := Nat.eq_of_beq_eq_true hb; subst this
    simp [h1]
  ·cases h
theorem pick_sub {E : Env} {ks : List Nat} {E' : Env} (h : pick E ks = some E') : ∀ t v, lk E' t = some v → lk E t = some v := by
 unfold pick at h
 cases hb : (someB (lk E MK) && !memK MK ks)
 ·rw [hb] at h; exact pick0_sub h
 ·rw [hb] at h; cases h
theorem pick_mk {E : Env} {ks : List Nat} {E' : Env} (h : pick E ks = some E') : lk E' MK = lk E MK := by
 have hs := pick_sub h
 unfold pick at h
 cases hb : (someB (lk E MK) && !memK MK ks)
 ·rw [hb] at h
  simp only [cond_false] at h
  cases he : lk E MK with
  | none =>
   cases he' : lk E' MK with
   | none => rfl
   | some v => have := hs _ _ he'; rw [he] at this; cases this
  | some v =>
   rw [he] at hb
   simp only [someB, Bool.true_and, Bool.not_eq_false'] at hb
   rw [pick0_mem h hb, he]
 ·rw [hb] at h; cases h
theorem Has.picked {N : Nat} {E : Env} {fb : Operand → Value} {a : Act} (h : Has N E fb a) {ks : List Nat} {E' : Env} (hp : pick E ks = some E') : Has N E' a.eval a := h.weak (pick_sub hp) (pick_mk hp)

/-! ### 2. operations that read -/
def CellsOK : List (Addr × Value) → World → Prop
 | [], _ => True
 | (a, v) :: r, w => w.cell? a = some v ∧ CellsOK r w
theorem CellsOK.append {l m : List (Addr × Value)} {w : World} (h : CellsOK l w) (h' : CellsOK m w) : CellsOK (l ++ m) w := by
 induction l with
 | nil => exact h'
 | cons p l ih => exact ⟨h.1, ih h.2⟩
theorem CellsOK.left {l m : List (Addr × Value)} {w : World} (h : CellsOK (l ++ m) w) : CellsOK l w := by
 induction l with
 | nil => trivial
 | cons p l ih => exact ⟨h.1, ih h.2⟩
theorem CellsOK.right {l m : List (Addr × Value)} {w : World} (h : CellsOK (l ++ m) w) : CellsOK m w := by
 induction l with
 | nil => exact h
 | cons p l ih => exact ih h.2
inductive Rq where
 | cell (a : Addr) (v : Value)
 | idx (A : Option Addr) (i : Int) (n : Nat)
 | ne (i : Int)
 | obj (r : Nat) (o : Obj)
def adr (A : Option Addr) : Addr := A.getD ⟨0, 0, none⟩
def RqOK : List Rq → World → Prop
 | [], _ => True
 | .cell a v :: r, w => w.cell? a = some v ∧ RqOK r w
 | .idx A i n :: r, w => (0 ≤ i ∧ i < (n : Int) ∧ A = some (adr A)) ∧ RqOK r w
 | .ne i :: r, w => i ≠ 0 ∧ RqOK r w
 | .obj b o :: r, w => (w.heap[b]? = some o ∧ (∀ c e f, o ≠ .cells c e f)) ∧ RqOK r w
theorem RqOK.left {l m : List Rq} {w : World} (h : RqOK (l ++ m) w) : RqOK l w := by
 induction l with
 | nil => trivial
 | cons p l ih => cases p <;> exact ⟨h.1, ih h.2⟩
theorem RqOK.right {l m : List Rq} {w : World} (h : RqOK (l ++ m) w) : RqOK m w := by
 induction l with
 | nil => exact h
 | cons p l ih => cases p <;> exact ih h.2
inductive An where
 | v (v : Value)
 | o (o : Obj)
 | p
def evS {α : Type} (P : Program) : Sem α → List An → Option (α × List An × List Rq)
 | .pure a, l => some (a, l, [])
 | .load _ a k, .v v :: l => match evS P (k v) l with
  | some (x, l', q) => some (x, l', .cell a v :: q)
  | none => none
 | .getObj r k, .o o :: l => match evS P (k o) l with
  | some (x, l', q) => some (x, l', .obj r o :: q)
  | none => none
 | .program k, l => evS P (k P) l
 | _, _ => none
theorem evS_run {α : Type} {P : Program} {w : World} : ∀ (s : Sem α) {l : List An} {x : α} {l' : List An} {q : List Rq}, evS P s l = some (x, l', q) → RqOK q w → s.run P w = .ok x w := by
 intro s
 induction s with
 | pure a => intro l x l' q h hc; simp [evS] at h; simp [Sem.run, h.1]
 | load m a k ih =>
  intro l x l' q h hc
  cases l with
  | nil => simp [evS] at h
  | cons v l =>
   cases v with
   | o o => simp [evS] at h
   | p => simp [evS] at h
   | v v =>
    simp only [evS] at h
    split at h
    ·rename_i x1 l1 q1 he
     injection h with h
     injection h with h1 h2
     injection h2 with h2 h3
     subst h1 h2 h3
     simp only [Sem.run, hc.1]
     exact ih v he hc.2
    ·cases h
 | getObj r k ih =>
  intro l x l' q h hc
  cases l with
  | nil => simp [evS] at h
  | cons v l =>
   cases v with
   | v v => simp [evS] at h
   | p => simp [evS] at h
   | o o =>
    simp only [evS] at h
    split at h
    ·rename_i x1 l1 q1 he
     injection h with h
     injection h with h1 h2
     injection h2 with h2 h3
     subst h1 h2 h3
     simp only [Sem.run, hc.1.1]
     have := hc.1.2
     cases o with
     | cells c e f => exact absurd rfl (this c e f)
     | _ => exact ih _ he hc.2
    ·cases h
 | program k ih => intro l x l' q h hc; simp only [evS] at h; simp only [Sem.run]; exact ih P h hc
 | _ => intro l x l' q h hc; simp [evS] at h

def elSz (P : Program) (t : TypeId) : Option Nat :=
 match P.underlying t with
 | some (.slice e) => match P.info? e with
  | some i => some i.size
  | none => none
 | _ => none
def asInts : List Value → Option (List Int)
 | [] => some []
 | .int .i64 n :: r => match asInts r with
  | some l => some (n :: l)
  | none => none
 | _ => none
def eqI : List Int → List Int → Bool
 | [a], [b] => a == b
 | a :: r, b :: s => a == b && eqI r s
 | [], [] => true
 | _, _ => false
def flatF (P : Program) : Nat → List Field → Bool
 | _, [] => true
 | i, f :: r => !(f.name == "_") && Nat.beq f.offset i && (match P.underlying f.type with
  | some (.int .i64) => true
  | _ => false) && flatF P (i + 1) r
def flatI (P : Program) (t : TypeId) : Option Nat :=
 match P.underlying t with
 | some (.struct fs) => bif flatF P 0 fs.toList && !P.stoodInHeld t && !(P.eqGuardType P.depth t) then some fs.size else none
 | _ => none
theorem asInts_eq : ∀ {l : List Value} {as_ : List Int}, asInts l = some as_ → l = as_.map (fun n => .int .i64 n)
 | [], as_, h => by simp [asInts] at h; subst h; rfl
 | v :: r, as_, h => by
  unfold asInts at h
  split at h
  ·simp_all
  ·rename_i n r' he
   injection he with h1 h2
   subst h1 h2
   split at h
   ·rename_i l hl
    injection h with h; subst h
    simp [asInts_eq hl]
   ·cases h
  ·cases h
theorem asInts_map : ∀ (l : List Int), asInts (l.map fun n => .int .i64 n) = some l
 | [] => rfl
 | a :: r => by simp [asInts, asInts_map r]
theorem part_int {P : Program} {w : World} {t : TypeId} (ht : P.underlying t = some (.int .i64)) (cs : Array Value) (i : Nat) (v : Value) (hv : cs[i]? = some v) : (part t cs i).run P w = .ok v w := by
 simp [part, isAgg, Go.underlying, Go.program, bind, pure, Sem.bind, Sem.run, ht, hv]
theorem eqFields_ints {P : Program} {w : World} {d : Nat} : ∀ (fs : List Field) (i : Nat) (as_ bs : List Int) (xs ys : Array Value), flatF P i fs = true → as_.length = fs.length → bs.length = fs.length →
  (∀ j n, as_[j]? = some n → xs[i + j]? = some (.int .i64 n)) → (∀ j n, bs[j]? = some n → ys[i + j]? = some (.int .i64 n)) → (Op.eqFields (d + 1) xs ys fs).run P w = .ok (eqI as_ bs) w
 | [], i, as_, bs, xs, ys, h, ha, hb, _, _ => by
  have e1 := List.eq_nil_of_length_eq_zero ha
  have e2 := List.eq_nil_of_length_eq_zero hb
  subst e1 e2
  simp [Op.eqFields, eqI]
 | f :: fs, i, as_, bs, xs, ys, h, ha, hb, hx, hy => by
  cases as_ with
  | nil => simp at ha
  | cons a as_ =>
   cases bs with
   | nil => simp at hb
   | cons b bs =>
    simp only [flatF, Bool.and_eq_true, Bool.not_eq_true'] at h
    obtain ⟨⟨⟨hn, ho⟩, ht⟩, hr⟩ := h
    have ho := Nat.eq_of_beq_eq_true ho
    have ht' : P.underlying f.type = some (.int .i64) := by
     split at ht
     ·assumption
     ·cases ht
    have hn' : f.name ≠ "_" := by simpa using hn
    have h1 := part_int (w := w) ht' xs i _ (by simpa using hx 0 a rfl)
    have h2 := part_int (w := w) ht' ys i _ (by simpa using hy 0 b rfl)
    have h3 : (Op.equalIn (d + 1) f.type (.int .i64 a) (.int .i64 b)).run P w = .ok (a == b) w := by
     simp [Op.equalIn, Go.underlying, Go.program, bind, pure, Sem.bind, Sem.run, ht']
    have h4 := eqFields_ints fs (i + 1) as_ bs xs ys hr (by simpa using ha) (by simpa using hb) (fun j n hj => by have := hx (j + 1) n (by simpa using hj); rwa [show i + (j + 1) = i + 1 + j from by omega] at this) (fun j n hj => by have := hy (j + 1) n (by simpa using hj); rwa [show i + (j + 1) = i + 1 + j from by omega] at this) (P := P) (w := w) (d := d)
    rw [Op.eqFields]
    simp only [if_pos hn', ho, Sem.run_bind, h1, h2, h3, Result.andThen_ok]
    cases hab : (a == b)
    ·cases as_ <;> cases bs <;> simp_all [eqI]
    ·cases as_ with
     | nil =>
      have : fs = [] := List.eq_nil_of_length_eq_zero (by simpa using ha.symm)
      subst this
      have : bs = [] := List.eq_nil_of_length_eq_zero (by simpa using hb)
      subst this
      simp [eqI, hab, Op.eqFields]
     | cons a' as_ =>
      cases bs with
      | nil => simp only [List.length_cons, List.length_nil] at ha hb; omega
      | cons b' bs => simpa [eqI, hab] using h4
theorem eqAgg_run {P : Program} {w : World} {t : TypeId} {n : Nat} (hf : flatI P t = some n) {as_ bs : List Int} (ha : as_.length = n) (hb : bs.length = n) {xs ys : Array Value} (hx : asInts xs.toList = some as_) (hy : asInts ys.toList = some bs) (op : BinOp) (hop : op = .eql ∨ op = .neq) (x y : Operand) :
  (do eqGuard op t x y (.agg xs) (.agg ys); binOp op t (.agg xs) (.agg ys)).run P w = .ok (.bool (if op = .eql then eqI as_ bs else !(eqI as_ bs))) w := by
 unfold flatI at hf
 split at hf
 ·rename_i fs hu
  cases hc : (flatF P 0 fs.toList && !P.stoodInHeld t && !(P.eqGuardType P.depth t))
  ·rw [hc] at hf; cases hf
  ·rw [hc] at hf
   simp only [cond_true] at hf
   injection hf with hf
   simp only [Bool.and_eq_true, Bool.not_eq_true'] at hc
   obtain ⟨⟨h1, h2⟩, h3⟩ := hc
   have ex := asInts_eq hx
   have ey := asInts_eq hy
   have hfl : P.fieldsOf t = fs := by simp [Program.fieldsOf, hu]
   have he : (Op.equal t (.agg xs) (.agg ys)).run P w = .ok (eqI as_ bs) w := by
    unfold Op.equal Op.maxDepth
    rw [run_equalIn_struct (P := P) w 9999 t xs ys (by rw [hfl]; exact hu) h2, hfl]
    refine eqFields_ints (d := 9998) fs.toList 0 as_ bs xs ys h1 (by rw [ha, ← hf]; simp) (by rw [hb, ← hf]; simp) (fun j m hj => ?_) (fun j m hj => ?_)
    ·rw [Nat.zero_add, ← Array.getElem?_toList, ex]; simp [hj]
    ·rw [Nat.zero_add, ← Array.getElem?_toList, ey]; simp [hj]
   have hg : (eqGuard op t x y (.agg xs) (.agg ys)).run P w = .ok () w := by
    rcases hop with rfl | rfl <;> simp [eqGuard, Go.program, bind, pure, Sem.bind, Sem.run, h3]
   rcases hop with rfl | rfl <;> simp [hg, binOp, he]
 ·cases hf
def arI (P : Program) (t : TypeId) : Option Nat :=
 match P.underlying t with
 | some (.array n e) => (match P.underlying e with
  | some (.int .i64) => bif (P.info? e).isSome && Nat.beq (P.cellsOf e) 1 && !(P.eqGuardType P.depth t) then some n else none
  | _ => none)
 | _ => none
theorem arI_eq {P : Program} {t : TypeId} {n : Nat} (h : arI P t = some n) : ∃ e i, P.underlying t = some (.array n e) ∧ P.underlying e = some (.int .i64) ∧ P.info? e = some i ∧ P.cellsOf e = 1 ∧ P.eqGuardType P.depth t = false := by
 unfold arI at h
 split at h
 ·rename_i n' e hu
  split at h
  ·rename_i he
   cases hb : ((P.info? e).isSome && Nat.beq (P.cellsOf e) 1 && !(P.eqGuardType P.depth t))
   ·rw [hb] at h; cases h
   ·rw [hb] at h
    simp only [cond_true] at h
    injection h with h
    subst h
    simp only [Bool.and_eq_true, Bool.not_eq_true'] at hb
    obtain ⟨i, hi⟩ := Option.isSome_iff_exists.1 hb.1.1
    exact ⟨e, i, hu, he, hi, Nat.eq_of_beq_eq_true hb.1.2, hb.2⟩
  ·cases h
 ·cases h
theorem eqItems_ints {P : Program} {w : World} {d : Nat} {e : TypeId} (he : P.underlying e = some (.int .i64)) : ∀ (m i : Nat) (as_ bs : List Int) (xs ys : Array Value), as_.length = m → bs.length = m →
  (∀ j n, as_[j]? = some n → xs[i + j]? = some (.int .i64 n)) → (∀ j n, bs[j]? = some n → ys[i + j]? = some (.int .i64 n)) → (Op.eqItems (d + 1) e 1 xs ys (List.range' i m)).run P w = .ok (eqI as_ bs) w
 | 0, i, as_, bs, xs, ys, ha, hb, _, _ => by
  have e1 := List.eq_nil_of_length_eq_zero ha
  have e2 := List.eq_nil_of_length_eq_zero hb
  subst e1 e2
  simp [Op.eqItems, eqI]
 | m + 1, i, as_, bs, xs, ys, ha, hb, hx, hy => by
  cases as_ with
  | nil => simp at ha
  | cons a as_ =>
   cases bs with
   | nil => simp at hb
   | cons b bs =>
    have h1 := part_int (w := w) he xs i _ (by simpa using hx 0 a rfl)
    have h2 := part_int (w := w) he ys i _ (by simpa using hy 0 b rfl)
    have h3 : (Op.equalIn (d + 1) e (.int .i64 a) (.int .i64 b)).run P w = .ok (a == b) w := by
     simp [Op.equalIn, Go.underlying, Go.program, bind, pure, Sem.bind, Sem.run, he]
    have h4 := eqItems_ints he m (i + 1) as_ bs xs ys (by simpa using ha) (by simpa using hb) (fun j n hj => by have := hx (j + 1) n (by simpa using hj); rwa [show i + (j + 1) = i + 1 + j from by omega] at this) (fun j n hj => by have := hy (j + 1) n (by simpa using hj); rwa [show i + (j + 1) = i + 1 + j from by omega] at this) (P := P) (w := w) (d := d)
    rw [List.range'_succ, Op.eqItems]
    simp only [Nat.mul_one, Sem.run_bind, h1, h2, h3, Result.andThen_ok]
    cases hab : (a == b)
    ·cases as_ <;> cases bs <;> simp_all [eqI]
    ·cases as_ with
     | nil =>
      have hm : m = 0 := by simpa using ha.symm
      subst hm
      have : bs = [] := List.eq_nil_of_length_eq_zero (by simpa using hb)
      subst this
      simp [eqI, hab, Op.eqItems]
     | cons a' as_ =>
      cases bs with
      | nil => simp only [List.length_cons, List.length_nil] at ha hb; omega
      | cons b' bs => simpa [eqI, hab] using h4
theorem equal_arr {P : Program} {w : World} {t : TypeId} {n : Nat} (hf : arI P t = some n) {as_ bs : List Int} (ha : as_.length = n) (hb : bs.length = n) {xs ys : Array Value} (hx : asInts xs.toList = some as_) (hy : asInts ys.toList = some bs) :
  (Op.equal t (.agg xs) (.agg ys)).run P w = .ok (eqI as_ bs) w := by
 obtain ⟨e, i, hu, he, hi, hc, hg⟩ := arI_eq hf
 have ex := asInts_eq hx
 have ey := asInts_eq hy
 unfold Op.equal Op.maxDepth
 rw [run_equalIn_array (P := P) w 9999 xs ys hu hi, hc, List.range_eq_range']
 refine eqItems_ints (d := 9998) he n 0 as_ bs xs ys ha hb (fun j m hj => ?_) (fun j m hj => ?_)
 ·rw [Nat.zero_add, ← Array.getElem?_toList, ex]; simp [hj]
 ·rw [Nat.zero_add, ← Array.getElem?_toList, ey]; simp [hj]
theorem eqArr_run {P : Program} {w : World} {t : TypeId} {n : Nat} (hf : arI P t = some n) {as_ bs : List Int} (ha : as_.length = n) (hb : bs.length = n) {xs ys : Array Value} (hx : asInts xs.toList = some as_) (hy : asInts ys.toList = some bs) (op : BinOp) (hop : op = .eql ∨ op = .neq) (x y : Operand) :
  (do eqGuard op t x y (.agg xs) (.agg ys); binOp op t (.agg xs) (.agg ys)).run P w = .ok (.bool (if op = .eql then eqI as_ bs else !(eqI as_ bs))) w := by
 have hE := equal_arr (w := w) hf ha hb hx hy
 obtain ⟨e, i, hu, he, hi, hc, h3⟩ := arI_eq hf
 have hg : (eqGuard op t x y (.agg xs) (.agg ys)).run P w = .ok () w := by
  rcases hop with rfl | rfl <;> simp [eqGuard, Go.program, bind, pure, Sem.bind, Sem.run, h3]
 rcases hop with rfl | rfl <;> simp [hg, binOp, hE]
def subA (A : Option Addr) (c l sz : Nat) : Option Addr := if c = l then A else A.map (·.add (l * sz))
def bnd (ρ : Operand → Value) (d : Int) : Option Operand → Option Int
 | none => some d
 | some y => match ρ y with
  | .int _ i => some i
  | _ => none
theorem bnd_none {ρ : Operand → Value} {d l : Int} (h : bnd ρ d none = some l) : l = d := by injection h with h; exact h.symm
theorem bnd_some {ρ : Operand → Value} {d l : Int} {y : Operand} (h : bnd ρ d (some y) = some l) : ∃ k, ρ y = .int k l := by
 unfold bnd at h
 simp only at h
 split at h
 ·rename_i k i e; injection h with h; subst h; exact ⟨k, e⟩
 ·cases h
theorem slice_run {P : Program} {w : World} {ρ : Operand → Value} {t : TypeId} {lo hi : Option Operand} {A : Option Addr} {n c sz : Nat} {l h : Int} (hs : elSz P t = some sz) (hl : bnd ρ 0 lo = some l) (hh : bnd ρ n hi = some h)
  (h0 : 0 ≤ l) (h1 : l < ((h.toNat + 1 : Nat) : Int)) (h2 : 0 ≤ h) (h3 : h < ((c + 1 : Nat) : Int)) :
  (Instr.sliceAt t (.slice A n c) (lo.map ρ) (hi.map ρ) none).run P w = .ok (.slice (subA A c l.toNat sz) (h.toNat - l.toNat) (c - l.toNat)) w := by
 unfold elSz at hs
 split at hs
 ·rename_i e he
  split at hs
  ·rename_i inf hinf
   injection hs with hs
   subst hs
   have hel : P.elem t = e := by simp [Program.elem, he]
   have hu : P.underlying t = some (.slice (P.elem t)) := by rw [hel]; exact he
   have hz : ((Go.sizeOf (P.elem t)).run P w) = .ok inf.size w := by rw [hel]; simp [Go.sizeOf, Go.typeInfo, Go.program, hinf, bind, pure, Sem.bind, Sem.run]
   rw [run_sliceAt_slice w t _ _ _ _ hu]
   have hlh : l ≤ h := by omega
   have hc : h ≤ (c : Int) := by omega
   cases lo with
   | none =>
    have := bnd_none hl; subst this
    cases hi with
    | none =>
     have := bnd_none hh; subst this
     rw [show (Option.map ρ (Option.none : Option Operand)) = Option.none from rfl, run_slice_all w t A n c hu, hz]
     simp [Result.andThen, sliced, subA]
    | some y =>
     obtain ⟨k, hk⟩ := bnd_some hh
     rw [show (Option.map ρ (Option.none : Option Operand)) = Option.none from rfl, show (Option.map ρ (some y)) = some (.int k h) from by rw [Option.map, hk], run_slice_h w t A n c hu k h h2 hc, hz]
     simp [Result.andThen, sliced, subA]
   | some x =>
    obtain ⟨k, hk⟩ := bnd_some hl
    rw [show (Option.map ρ (some x)) = some (.int k l) from by rw [Option.map, hk]]
    cases hi with
    | none =>
     have := bnd_none hh; subst this
     rw [show (Option.map ρ (Option.none : Option Operand)) = Option.none from rfl, run_slice_l w t A n c hu k l h0 (by omega), hz]
     simp [Result.andThen, sliced, subA]
    | some y =>
     obtain ⟨k2, hk2⟩ := bnd_some hh
     rw [show (Option.map ρ (some y)) = some (.int k2 h) from by rw [Option.map, hk2], run_slice_lh w t A n c hu k k2 l h h0 hlh hc, hz]
     simp [Result.andThen, sliced, subA]
  ·cases hs
 ·cases hs
def arSz (P : Program) (t : TypeId) : Option (Nat × Nat) :=
 match P.underlying t with
 | some (.array n e) => bif Nat.ble 5 n then (match P.info? e with
  | some i => some (n, i.size)
  | none => none) else none
 | _ => none
def flatA (a : Addr) (k : Nat) : Addr := ⟨a.block, a.off + k, none⟩
theorem flatA_eq {a : Addr} (h : a.spot = none) (k : Nat) : a.add k = flatA a k := by
 unfold Addr.add flatA
 split
 ·rename_i h0; subst h0; cases a; simp only at h; subst h; rfl
 ·rfl
def strAt (s : ByteArray) (n : Int) : Int := ((s.data.toList.getD n.toNat 0).toNat : Int)
theorem idx_run {P : Program} {t : TypeId} (ht : P.underlying t = some .string) {s : ByteArray} {n : Int} {kd : IntKind} (h : 0 ≤ n ∧ n < (s.size : Int)) (w : World) : (Instr.index t (.string s) (.int kd n)).run P w = .ok (.int .u8 (strAt s n)) w := by
 have hlt : n.toNat < s.size := by omega
 have hg : s[n.toNat]? = some s[n.toNat] := getElem?_pos s n.toNat hlt
 unfold Instr.index
 simp only [Sem.run_bind, asIntOf, Sem.run_pure, Result.andThen_ok, run_underlying ht, if_pos h.1, hg]
 have : ((s[n.toNat].toNat : Nat) : Int) = strAt s n := by
  unfold strAt
  have : s.data.toList.getD n.toNat 0 = s[n.toNat] := by
   rw [List.getD_eq_getElem?_getD, Array.getElem?_toList, Array.getElem?_eq_getElem hlt]; rfl
  rw [this]
 rw [this]
theorem cat_run {P : Program} {a b : ByteArray} (h : a.size + b.size ≤ 9223372036854775807) (w : World) : (Op.stringOp .add a b).run P w = .ok (.string (a ++ b)) w := by
 unfold Op.stringOp
 have : ¬ (((a.size + b.size : Nat) : Int) > IntKind.i64.max) := by
  show ¬ (((a.size + b.size : Nat) : Int) > 9223372036854775807)
  omega
 simp only [if_neg this]; rfl
def shlV (a b : Int) : Int := IntKind.u64.wrap (a * 2 ^ b.toNat)
def shrV (a b : Int) : Int := a.fdiv (2 ^ b.toNat)
def andV (a b : Int) : Int := IntKind.u64.wrap ((BitVec.ofInt 64 a &&& BitVec.ofInt 64 b).toNat : Int)
def orV (a b : Int) : Int := IntKind.u64.wrap ((BitVec.ofInt 64 a ||| BitVec.ofInt 64 b).toNat : Int)
def asU : List Value → Option (List Int)
 | [] => some []
 | .int .u64 n :: r => match asU r with
  | some l => some (n :: l)
  | none => none
 | _ => none
theorem asU_eq : ∀ {l : List Value} {as_ : List Int}, asU l = some as_ → l = as_.map (fun n => .int .u64 n)
 | [], as_, h => by simp [asU] at h; subst h; rfl
 | v :: r, as_, h => by
  unfold asU at h
  split at h
  ·rename_i e; cases e
  ·rename_i n r' e
   injection e with e1 e2
   subst e1 e2
   split at h
   ·rename_i l hl
    injection h with h
    subst h
    rw [asU_eq hl]; rfl
   ·cases h
  ·cases h
def getI (l : List Int) (i : Int) : Int := l.getD i.toNat 0
def wordsI (P : Program) (t : TypeId) (cs : List Value) : Option (List Int × Nat) := match asU cs, P.underlying t with
 | some us, some (.array n e) => (match P.underlying e, P.info? e with
  | some (.int .u64), some inf => bif Nat.beq us.length n && Nat.beq inf.size 1 then some (us, n) else none
  | _, _ => none)
 | _, _ => none
theorem wordsI_run {P : Program} {t : TypeId} {cs : Array Value} {us : List Int} {n : Nat} (h : wordsI P t cs.toList = some (us, n)) {i : Int} (h0 : 0 ≤ i) (h1 : i < (n : Int)) (w : World) : (Instr.index t (.agg cs) (.int .i64 i)).run P w = .ok (.int .u64 (getI us i)) w := by
 unfold wordsI at h
 split at h
 ·rename_i us' n' e hu ht
  split at h
  ·rename_i inf he hi
   cases hl : (Nat.beq us'.length n' && Nat.beq inf.size 1)
   ·rw [hl] at h; cases h
   ·rw [hl] at h
    simp only [cond_true] at h
    injection h with h; injection h with e1 e2
    subst e1 e2
    rw [Bool.and_eq_true] at hl
    have hl1 := Nat.eq_of_beq_eq_true hl.1
    have hl2 := Nat.eq_of_beq_eq_true hl.2
    have hc := asU_eq hu
    have hlt : i.toNat < us'.length := by omega
    have hg : cs[i.toNat]? = some (.int .u64 (getI us' i)) := by
     rw [← Array.getElem?_toList, hc, List.getElem?_map, List.getElem?_eq_getElem hlt]
     unfold getI
     rw [List.getD_eq_getElem?_getD, List.getElem?_eq_getElem hlt]; rfl
    have hd : 0 ≤ i ∧ i < (n' : Int) := ⟨h0, h1⟩
    simp [Instr.index, asIntOf, bind, pure, Sem.bind, Sem.run, Go.underlying, Go.program, ht, he, Go.sizeOf, Go.typeInfo, hi, hd, part, isAgg, hl2, hg]
  ·cases h
 ·cases h
def andI (a b : Int) : Int := IntKind.i64.wrap ((BitVec.ofInt 64 a &&& BitVec.ofInt 64 b).toNat : Int)
theorem shift_run {P : Program} {k : IntKind} {a b : Int} (h0 : 0 ≤ b) (h1 : b < 64) (w : World) : (Op.shift .shl .u64 a k b).run P w = .ok (.int .u64 (shlV a b)) w ∧ (Op.shift .shr .u64 a k b).run P w = .ok (.int .u64 (shrV a b)) w := by
 have hn : min b.toNat IntKind.u64.bits = b.toNat := by show min b.toNat 64 = b.toNat; omega
 have h : ¬ b < 0 := by omega
 unfold Op.shift
 simp only [if_neg h, hn]
 exact ⟨rfl, rfl⟩
def evO (P : Program) (ρ : Operand → Value) (o : Oper) (l : List An) : Option (Value × List An × List Rq) :=
 let gen : Unit → Option (Value × List An × List Rq) := fun _ => match evS P (execOp ρ o) l with
  | some (.value v, l', q) => some (v, l', q)
  | _ => none
 match o.op with
 | .indexAddr t x ix => match ρ x, ρ ix, elSz P t with
  | .slice A n _, .int _ i, some sz => some (.pointer (some ((adr A).add (i.toNat * sz))), l, [.idx A i n])
  | .pointer (some a), .int _ i, none => match l, arSz P t with
   | .p :: l', some (n, sz) => some (.pointer (some (a.add (i.toNat * sz))), l', [.idx (some ⟨0, 0, none⟩) i n])
   | _, _ => match arSz P t, a.spot with
    | some (n, sz), none => some (.pointer (some (flatA a (i.toNat * sz))), l, [.idx (some ⟨0, 0, none⟩) i n])
    | _, _ => gen ()
  | _, _, _ => gen ()
 | .pick c a b => match ρ c, ρ a, ρ b with
  | .bool c, .bool a, .bool b => some (.bool (bif c then a else b), l, [])
  | _, _, _ => gen ()
 | .binOp .quo _ x y _ => match ρ x, ρ y with
  | .int .i64 a, .int .i64 b => some (.int .i64 (IntKind.i64.wrap (a.tdiv b)), l, [.ne b])
  | .int .u64 a, .int .u64 b => some (.int .u64 (IntKind.u64.wrap (a.tdiv b)), l, [.ne b])
  | _, _ => gen ()
 | .binOp .rem _ x y _ => match ρ x, ρ y with
  | .int .i64 a, .int .i64 b => some (.int .i64 (a.tmod b), l, [.ne b])
  | .int .u64 a, .int .u64 b => some (.int .u64 (a.tmod b), l, [.ne b])
  | _, _ => gen ()
 | .binOp .eql t x y _ => match ρ x, ρ y with
  | .agg xs, .agg ys => match asInts xs.toList, asInts ys.toList, flatI P t with
   | some as_, some bs, some n => bif Nat.beq as_.length n && Nat.beq bs.length n then some (.bool (eqI as_ bs), l, []) else none
   | some as_, some bs, none => (match arI P t with
    | some n => bif Nat.beq as_.length n && Nat.beq bs.length n then some (.bool (eqI as_ bs), l, []) else none
    | none => none)
   | _, _, _ => none
  | _, _ => gen ()
 | .binOp .neq t x y _ => match ρ x, ρ y with
  | .agg xs, .agg ys => match asInts xs.toList, asInts ys.toList, flatI P t with
   | some as_, some bs, some n => bif Nat.beq as_.length n && Nat.beq bs.length n then some (.bool (!(eqI as_ bs)), l, []) else none
   | some as_, some bs, none => (match arI P t with
    | some n => bif Nat.beq as_.length n && Nat.beq bs.length n then some (.bool (!(eqI as_ bs)), l, []) else none
    | none => none)
   | _, _, _ => none
  | _, _ => gen ()
 | .slice t x lo hi none => match ρ x, elSz P t with
  | .slice A n c, some sz => match bnd ρ 0 lo, bnd ρ n hi with
   | some a, some b => some (.slice (subA A c a.toNat sz) (b.toNat - a.toNat) (c - a.toNat), l, [.idx (some ⟨0, 0, none⟩) a (b.toNat + 1), .idx (some ⟨0, 0, none⟩) b (c + 1)])
   | _, _ => none
  | _, _ => gen ()
 | .binOp .add _ x y _ => match ρ x, ρ y with
  | .string a, .string b => some (.string (a ++ b), l, [.idx (some ⟨0, 0, none⟩) ((a.size + b.size : Nat) : Int) 9223372036854775808])
  | _, _ => gen ()
 | .binOp .shl _ x y _ => match ρ x, ρ y with
  | .int .u64 a, .int _ b => some (.int .u64 (shlV a b), l, [.idx (some ⟨0, 0, none⟩) b 64])
  | _, _ => gen ()
 | .binOp .shr _ x y _ => match ρ x, ρ y with
  | .int .u64 a, .int _ b => some (.int .u64 (shrV a b), l, [.idx (some ⟨0, 0, none⟩) b 64])
  | _, _ => gen ()
 | .binOp .and _ x y _ => match ρ x, ρ y with
  | .int .u64 a, .int .u64 b => some (.int .u64 (andV a b), l, [])
  | .int .i64 a, .int .i64 b => some (.int .i64 (andI a b), l, [])
  | _, _ => gen ()
 | .binOp .or _ x y _ => match ρ x, ρ y with
  | .int .u64 a, .int .u64 b => some (.int .u64 (orV a b), l, [])
  | _, _ => gen ()
 | .index t x ix => match ρ x, ρ ix, P.underlying t with
  | .string s, .int _ i, some .string => some (.int .u8 (strAt s i), l, [.idx (some ⟨0, 0, none⟩) i s.size])
  | .agg cs, .int .i64 i, _ => (match wordsI P t cs.toList with
   | some (us, n) => some (.int .u64 (getI us i), l, [.idx (some ⟨0, 0, none⟩) i n])
   | none => gen ())
  | _, _, _ => gen ()
 | _ => gen ()
theorem evO_run {P : Program} {w : World} {ρ : Operand → Value} {o : Oper} {l : List An} {v : Value} {l' : List An} {q : List Rq} (h : evO P ρ o l = some (v, l', q)) (hq : RqOK q w) : (execOp ρ o).run P w = .ok (.value v) w := by
 have gen : (match evS P (execOp ρ o) l with
   | some (.value v, l', q) => some (v, l', q)
   | _ => none) = some (v, l', q) → (execOp ρ o).run P w = .ok (.value v) w := by
  intro h
  split at h
  ·rename_i v1 l1 q1 he
   injection h with h; injection h with h1 h2; injection h2 with h2 h3
   subst h1 h2 h3
   exact evS_run _ he hq
  ·cases h
 unfold evO at h
 simp only at h
 split at h
 ·rename_i t x ix hop
  split at h
  ·rename_i A n c k i sz hx hi hs
   injection h with h; injection h with h1 h2; injection h2 with h2 h3
   subst h1 h2 h3
   obtain ⟨⟨h0, h1, hA⟩, -⟩ := hq
   unfold elSz at hs
   split at hs
   ·rename_i e he
    split at hs
    ·rename_i inf hinf
     injection hs with hs
     subst hs
     simp only [execOp, hop, hx, hi]
     rw [hA]
     have hd : (0 ≤ i ∧ i < (n : Int)) := ⟨h0, h1⟩
     simp [Instr.indexAt, asIntOf, adr, bind, pure, Sem.bind, Sem.run, Go.underlying, Go.program, he, Go.sizeOf, Go.typeInfo, hinf, hd]
    ·cases hs
   ·cases hs
  ·rename_i a k i hx hi hs
   split at h
   ·rename_i l0 n sz ha
    injection h with h; injection h with h1 h2; injection h2 with h2 h3
    subst h1 h2 h3
    obtain ⟨⟨h0, h1, -⟩, -⟩ := hq
    unfold arSz at ha
    split at ha
    ·rename_i n' e he
     cases hb : Nat.ble 5 n'
     ·rw [hb] at ha; cases ha
     ·rw [hb] at ha
      simp only [cond_true] at ha
      split at ha
      ·rename_i inf hinf
       injection ha with ha; injection ha with ha1 ha2
       subst ha1 ha2
       have hd : (0 ≤ i ∧ i < (n' : Int)) := ⟨h0, h1⟩
       simp only [execOp, hop, hx, hi]
       simp [Instr.indexAt, asIntOf, Instr.sureAddr, bind, pure, Sem.bind, Sem.run, Go.underlying, Go.program, he, Go.sizeOf, Go.typeInfo, hinf, hd]
      ·cases ha
    ·cases ha
   ·split at h
    ·rename_i n sz ha hsp
     injection h with h; injection h with h1 h2; injection h2 with h2 h3
     subst h1 h2 h3
     obtain ⟨⟨h0, h1, -⟩, -⟩ := hq
     unfold arSz at ha
     split at ha
     ·rename_i n' e he
      cases hb : Nat.ble 5 n'
      ·rw [hb] at ha; cases ha
      ·rw [hb] at ha
       simp only [cond_true] at ha
       split at ha
       ·rename_i inf hinf
        injection ha with ha; injection ha with ha1 ha2
        subst ha1 ha2
        have hd : (0 ≤ i ∧ i < (n' : Int)) := ⟨h0, h1⟩
        simp only [execOp, hop, hx, hi]
        simp [Instr.indexAt, asIntOf, Instr.sureAddr, bind, pure, Sem.bind, Sem.run, Go.underlying, Go.program, he, Go.sizeOf, Go.typeInfo, hinf, hd, flatA_eq hsp]
       ·cases ha
     ·cases ha
    ·exact gen h
  ·exact gen h
 ·rename_i c a b hop
  split at h
  ·rename_i c' a' b' hc ha hb
   injection h with h; injection h with h1 h2; injection h2 with h2 h3
   subst h1
   simp only [execOp, hop, hc, ha, hb]
   cases c' <;> simp [asBool, bind, pure, Sem.bind, Sem.run]
  ·exact gen h
 ·rename_i t x y t' hop
  split at h
  ·rename_i a b hx hy
   injection h with h; injection h with h1 h2; injection h2 with h2 h3
   subst h1 h2 h3
   have hb := hq.1
   simp [execOp, hop, hx, hy, eqGuard, binOp, Op.intDiv, bind, pure, Sem.bind, Sem.run, hb]
  ·rename_i a b hx hy
   injection h with h; injection h with h1 h2; injection h2 with h2 h3
   subst h1 h2 h3
   have hb := hq.1
   simp [execOp, hop, hx, hy, eqGuard, binOp, Op.intDiv, bind, pure, Sem.bind, Sem.run, hb]
  ·exact gen h
 ·rename_i t x y t' hop
  split at h
  ·rename_i a b hx hy
   injection h with h; injection h with h1 h2; injection h2 with h2 h3
   subst h1 h2 h3
   have hb := hq.1
   simp [execOp, hop, hx, hy, eqGuard, binOp, Op.intDiv, bind, pure, Sem.bind, Sem.run, hb]
  ·rename_i a b hx hy
   injection h with h; injection h with h1 h2; injection h2 with h2 h3
   subst h1 h2 h3
   have hb := hq.1
   simp [execOp, hop, hx, hy, eqGuard, binOp, Op.intDiv, bind, pure, Sem.bind, Sem.run, hb]
  ·exact gen h
 ·rename_i t x y t' hop
  split at h
  ·rename_i xs ys hx hy
   split at h
   ·rename_i as_ bs n h1 h2 h3
    cases hl : (Nat.beq as_.length n && Nat.beq bs.length n)
    ·rw [hl] at h; cases h
    ·rw [hl] at h
     simp only [cond_true] at h
     rw [Bool.and_eq_true] at hl
     injection h with h; injection h with e1 h
     subst e1
     have := eqAgg_run (P := P) (w := w) h3 (Nat.eq_of_beq_eq_true hl.1) (Nat.eq_of_beq_eq_true hl.2) h1 h2 .eql (.inl rfl) x y
     simp only [execOp, hop, hx, hy]
     simp only [Sem.run_bind] at this ⊢
     rw [this]
     simp
   ·rename_i as_ bs h1 h2 h3
    split at h
    ·rename_i n h3
     cases hl : (Nat.beq as_.length n && Nat.beq bs.length n)
     ·rw [hl] at h; cases h
     ·rw [hl] at h
      simp only [cond_true] at h
      rw [Bool.and_eq_true] at hl
      injection h with h; injection h with e1 h
      subst e1
      have := eqArr_run (P := P) (w := w) h3 (Nat.eq_of_beq_eq_true hl.1) (Nat.eq_of_beq_eq_true hl.2) h1 h2 .eql (.inl rfl) x y
      simp only [execOp, hop, hx, hy]
      simp only [Sem.run_bind] at this ⊢
      rw [this]
      simp
    ·cases h
   ·cases h
  ·exact gen h
 ·rename_i t x y t' hop
  split at h
  ·rename_i xs ys hx hy
   split at h
   ·rename_i as_ bs n h1 h2 h3
    cases hl : (Nat.beq as_.length n && Nat.beq bs.length n)
    ·rw [hl] at h; cases h
    ·rw [hl] at h
     simp only [cond_true] at h
     rw [Bool.and_eq_true] at hl
     injection h with h; injection h with e1 h
     subst e1
     have := eqAgg_run (P := P) (w := w) h3 (Nat.eq_of_beq_eq_true hl.1) (Nat.eq_of_beq_eq_true hl.2) h1 h2 .neq (.inr rfl) x y
     simp only [execOp, hop, hx, hy]
     simp only [Sem.run_bind] at this ⊢
     rw [this]
     simp
   ·rename_i as_ bs h1 h2 h3
    split at h
    ·rename_i n h3
     cases hl : (Nat.beq as_.length n && Nat.beq bs.length n)
     ·rw [hl] at h; cases h
     ·rw [hl] at h
      simp only [cond_true] at h
      rw [Bool.and_eq_true] at hl
      injection h with h; injection h with e1 h
      subst e1
      have := eqArr_run (P := P) (w := w) h3 (Nat.eq_of_beq_eq_true hl.1) (Nat.eq_of_beq_eq_true hl.2) h1 h2 .neq (.inr rfl) x y
      simp only [execOp, hop, hx, hy]
      simp only [Sem.run_bind] at this ⊢
      rw [this]
      simp
    ·cases h
   ·cases h
  ·exact gen h
 ·rename_i t x lo hi hop
  split at h
  ·rename_i A n c sz hx hs
   split at h
   ·rename_i a b ha hb
    injection h with h; injection h with h1 h2; injection h2 with h2 h3
    subst h1 h2 h3
    obtain ⟨⟨h0, h1, -⟩, ⟨h2, h3, -⟩, -⟩ := hq
    simp only [execOp, hop, hx, Sem.run_bind, Option.map_none, slice_run hs ha hb h0 h1 h2 h3]
    simp
   ·cases h
  ·exact gen h
 ·rename_i t x y t' hop
  split at h
  ·rename_i a b hx hy
   injection h with h; injection h with h1 h2; injection h2 with h2 h3
   subst h1 h2 h3
   have hb : a.size + b.size ≤ 9223372036854775807 := by have := hq.1.2.1; omega
   have hg : (eqGuard .add t x y (ρ x) (ρ y)).run P w = .ok () w := by unfold eqGuard; rfl
   have hc : (binOp .add t (ρ x) (ρ y)).run P w = .ok (.string (a ++ b)) w := by rw [hx, hy]; unfold binOp; exact cat_run hb w
   simp only [execOp, hop, Sem.run_bind, hg, hc, Result.andThen_ok, Sem.run_pure]
  ·exact gen h
 ·rename_i t x y t' hop
  split at h
  ·rename_i a k b hx hy
   injection h with h; injection h with h1 h2; injection h2 with h2 h3
   subst h1 h2 h3
   have hg : (eqGuard .shl t x y (ρ x) (ρ y)).run P w = .ok () w := by unfold eqGuard; rfl
   have hc : (binOp .shl t (ρ x) (ρ y)).run P w = .ok (.int .u64 (shlV a b)) w := by rw [hx, hy]; unfold binOp; exact (shift_run hq.1.1 hq.1.2.1 w).1
   simp only [execOp, hop, Sem.run_bind, hg, hc, Result.andThen_ok, Sem.run_pure]
  ·exact gen h
 ·rename_i t x y t' hop
  split at h
  ·rename_i a k b hx hy
   injection h with h; injection h with h1 h2; injection h2 with h2 h3
   subst h1 h2 h3
   have hg : (eqGuard .shr t x y (ρ x) (ρ y)).run P w = .ok () w := by unfold eqGuard; rfl
   have hc : (binOp .shr t (ρ x) (ρ y)).run P w = .ok (.int .u64 (shrV a b)) w := by rw [hx, hy]; unfold binOp; exact (shift_run hq.1.1 hq.1.2.1 w).2
   simp only [execOp, hop, Sem.run_bind, hg, hc, Result.andThen_ok, Sem.run_pure]
  ·exact gen h
 ·rename_i t x y t' hop
  split at h
  ·rename_i a b hx hy
   injection h with h; injection h with h1 h2; injection h2 with h2 h3
   subst h1 h2 h3
   have hg : (eqGuard .and t x y (ρ x) (ρ y)).run P w = .ok () w := by unfold eqGuard; rfl
   have hc : (binOp .and t (ρ x) (ρ y)).run P w = .ok (.int .u64 (andV a b)) w := by rw [hx, hy]; rfl
   simp only [execOp, hop, Sem.run_bind, hg, hc, Result.andThen_ok, Sem.run_pure]
  ·rename_i a b hx hy
   injection h with h; injection h with h1 h2; injection h2 with h2 h3
   subst h1 h2 h3
   have hg : (eqGuard .and t x y (ρ x) (ρ y)).run P w = .ok () w := by unfold eqGuard; rfl
   have hc : (binOp .and t (ρ x) (ρ y)).run P w = .ok (.int .i64 (andI a b)) w := by rw [hx, hy]; rfl
   simp only [execOp, hop, Sem.run_bind, hg, hc, Result.andThen_ok, Sem.run_pure]
  ·exact gen h
 ·rename_i t x y t' hop
  split at h
  ·rename_i a b hx hy
   injection h with h; injection h with h1 h2; injection h2 with h2 h3
   subst h1 h2 h3
   have hg : (eqGuard .or t x y (ρ x) (ρ y)).run P w = .ok () w := by unfold eqGuard; rfl
   have hc : (binOp .or t (ρ x) (ρ y)).run P w = .ok (.int .u64 (orV a b)) w := by rw [hx, hy]; rfl
   simp only [execOp, hop, Sem.run_bind, hg, hc, Result.andThen_ok, Sem.run_pure]
  ·exact gen h
 ·rename_i t x ix hop
  split at h
  ·rename_i s kd i hx hi ht
   injection h with h; injection h with h1 h2; injection h2 with h2 h3
   subst h1 h2 h3
   have hd : 0 ≤ i ∧ i < (s.size : Int) := ⟨hq.1.1, hq.1.2.1⟩
   simp only [execOp, hop, hx, hi, Sem.run_bind, idx_run ht hd w, Result.andThen_ok, Sem.run_pure]
  ·rename_i cs i _ hx hi
   split at h
   ·rename_i us n hu
    injection h with h; injection h with h1 h2; injection h2 with h2 h3
    subst h1 h2 h3
    simp only [execOp, hop, hx, hi, Sem.run_bind, wordsI_run hu hq.1.1 hq.1.2.1 w, Result.andThen_ok, Sem.run_pure]
   ·exact gen h
  ·exact gen h
 ·exact gen h

/-! ### 3. the region, told by a place in its operations -/
abbrev FF := List (Nat × Addr × Value) × List Nat × List (List Nat)
def memN (n : Nat) : List Nat → Bool
 | [] => false
 | k :: r => bif Nat.beq k n then true else memN n r
def rowB (B : List (List Nat)) (i : Nat) : List Nat := B.getD i []
def CellsK : List (Nat × Addr × Value) → Nat → World → Prop
 | [], _, _ => True
 | (x, a, v) :: r, k, w => (Nat.beq x k = true → w.cell? a = some v) ∧ CellsK r k w
def CellsX (l : List (Nat × Addr × Value)) (b : List Nat) (w : World) : Prop :=
 match l with
 | [] => True
 | (x, a, v) :: r => bif memN x b then CellsX r b w else (w.cell? a = some v ∧ CellsX r b w)
def wpL (P : Program) (ops : Array Oper) (Q : Exit → Act → World → Prop) (F : FF) : List (Nat × Oper) → Act → World → Prop
  | [], a, w => Q .normal a w
  | (k, o) :: r, a, w => if Region.wanted o (yielded ops a.tmps) then
        (if memN k F.2.1 = true then ∃ v, (∀ w', CellsK F.1 k w' → (execOp a.eval o).run P w' = .ok (.value v) w') ∧ wpL P ops Q F r (a.put o.dst v) w
         else (o.wpA P a w (fun a' w' => (w' = w ∨ CellsX F.1 (rowB F.2.2 k) w') ∧ wpL P ops Q F r a' w') Q ∨ False))
      else wpL P ops Q F r (a.put o.dst undef) w
def NF : FF := ([], [], [])
theorem wpL_list {P : Program} {ops : Array Oper} {Q : Exit → Act → World → Prop} : ∀ (l : List (Nat × Oper)) (a : Act) (w : World), wpL P ops Q NF l a w → wpListA P ops Q (l.map (·.2)) a w := by
 intro l
 induction l with
 | nil => intro a w h; exact h
 | cons o r ih =>
  intro a w h
  obtain ⟨k, o⟩ := o
  unfold wpL at h
  simp only [List.map_cons]
  unfold wpListA
  split
  ·rename_i hw
   rw [if_pos hw, if_neg (by simp [NF, memN])] at h
   exact opA_mono (fun a' w' hh => ih _ _ hh.2) (h.resolve_right id)
  ·rename_i hw
   rw [if_neg hw] at h
   exact ih _ _ h
def num : Nat → List Oper → List (Nat × Oper)
 | _, [] => []
 | i, o :: r => (i, o) :: num (i + 1) r
theorem num_map : ∀ (l : List Oper) (i : Nat), (num i l).map (·.2) = l
 | [], _ => rfl
 | o :: r, i => by simp [num, num_map r]
def allOps (ops : Array Oper) : List (Nat × Oper) := num 0 ops.toList

def WL (P : Program) (ops : Array Oper) (lst : List (Nat × Oper)) (Q : Exit → Act → World → Prop) (F : FF) (i : Nat) (N : Nat) (E : Env) (w : World) : Prop :=
 ∀ fb a, Has N E fb a → wpL P ops Q F (lst.drop i) a w
def WC (P : Program) (c : Code) (Q : Exit → Act → World → Prop) (N : Nat) (E : Env) (w : World) : Prop :=
 ∀ fb a, Has N E fb a → c.wpA P Q a w
def WX (Q : Exit → Act → World → Prop) (e : Exit) (N : Nat) (E : Env) (w : World) : Prop :=
 ∀ fb a, Has N E fb a → Q e a w
def WK (K : Act → World → Prop) (N : Nat) (E : Env) (w : World) : Prop :=
 ∀ fb a, Has N E fb a → K a w

def rqCells : List Rq → List (Addr × Value)
 | [] => []
 | .cell a v :: r => (a, v) :: rqCells r
 | _ :: r => rqCells r
def rqRest : List Rq → List Rq
 | [] => []
 | .cell _ _ :: r => rqRest r
 | q :: r => q :: rqRest r
def rqNoObj : List Rq → Bool
 | [] => true
 | .obj _ _ :: _ => false
 | _ :: r => rqNoObj r
theorem CellsOK.mem {l : List (Addr × Value)} {w : World} : CellsOK l w → ∀ p ∈ l, w.cell? p.1 = some p.2 := by
 induction l with
 | nil => intro _ p hp; cases hp
 | cons q l ih =>
  intro h p hp
  rcases List.mem_cons.1 hp with rfl | hp
  ·exact h.1
  ·exact ih h.2 p hp
theorem rq_split {q : List Rq} {w w' : World} (hn : rqNoObj q = true) (h1 : RqOK (rqRest q) w) (h2 : ∀ p ∈ rqCells q, w'.cell? p.1 = some p.2) : RqOK q w' := by
 induction q with
 | nil => trivial
 | cons r q ih =>
  cases r with
  | cell a v => exact ⟨h2 (a, v) (by simp [rqCells]), ih hn h1 (fun p hp => h2 p (by simp [rqCells, hp]))⟩
  | idx A i n => exact ⟨h1.1, ih hn h1.2 (fun p hp => h2 p (by simpa [rqCells] using hp))⟩
  | ne i => exact ⟨h1.1, ih hn h1.2 (fun p hp => h2 p (by simpa [rqCells] using hp))⟩
  | obj b o => cases hn
def evR (P : Program) (ops : Array Oper) (fl : List Nat) (N : Nat) (fb : Operand → Value) : List (Nat × Oper) → List An → Env → Option (Env × List Rq × List (Nat × Addr × Value))
 | [], _, E => some (E, [], [])
 | (k, o) :: r, l, E =>
  let go : Unit → Option (Env × List Rq × List (Nat × Addr × Value)) := fun _ => match evO P (rho E fb) o l with
   | some (v, l', q) => match o.dst with
    | some d => bif Nat.blt d N then (match evR P ops fl N fb r l' ((d, v) :: E) with
      | some (E', q', f') => bif memN k fl then (bif rqNoObj q then some (E', rqRest q ++ q', (rqCells q).map (fun p => (k, p.1, p.2)) ++ f') else none) else some (E', q ++ q', f')
      | none => none) else none
    | none => none
   | _ => none
  match o.guard with
  | some (j, want) => match (ops[j]?).bind (·.dst) with
   | some dj => match lk E dj with
    | some (.bool b) => bif b == want then go () else (match o.dst with
     | some d => bif Nat.blt d N then evR P ops fl N fb r l ((d, undef) :: E) else none
     | none => evR P ops fl N fb r l E)
    | some (.tuple _) => (match o.dst with
     | some d => bif Nat.blt d N then evR P ops fl N fb r l ((d, undef) :: E) else none
     | none => evR P ops fl N fb r l E)
    | _ => none
   | none => none
  | none => go ()
theorem drop_cons {α : Type} {l : List α} {i : Nat} {o : α} {r : List α} (h : l.drop i = o :: r) : l.drop (i + 1) = r := by
 rw [← List.drop_drop, h]; rfl
theorem blt_lt {d N : Nat} (h : Nat.blt d N = true) : d < N := by
 have := Nat.le_of_ble_eq_true (by simpa [Nat.blt] using h); omega
theorem yielded_of {N : Nat} {E : Env} {fb : Operand → Value} {a : Act} (ha : Has N E fb a) {ops : Array Oper} {j dj : Nat} {b : Bool} (hj : (ops[j]?).bind (·.dst) = some dj) (hb : lk E dj = some (.bool b)) : yielded ops a.tmps j = some b := by
 have h1 := ha.get dj hb
 unfold yielded
 rw [hj]
 simp only [Option.bind_some]
 have : a.tmps[dj]? = some (.bool b) := by
  rw [Array.getD_eq_getD_getElem?] at h1
  cases hh : a.tmps[dj]? with
  | none => rw [hh] at h1; simp [undef] at h1
  | some v => rw [hh] at h1; simpa using h1
 rw [this]
theorem yielded_no {N : Nat} {E : Env} {fb : Operand → Value} {a : Act} (ha : Has N E fb a) {ops : Array Oper} {j dj : Nat} {b : Array Value} (hj : (ops[j]?).bind (·.dst) = some dj) (hb : lk E dj = some (.tuple b)) : yielded ops a.tmps j = none := by
 have h1 := ha.get dj hb
 unfold yielded
 rw [hj]
 simp only [Option.bind_some]
 rw [Array.getD_eq_getD_getElem?] at h1
 cases hh : a.tmps[dj]? with
 | none => rfl
 | some v => rw [hh] at h1; simp at h1; subst h1; rfl
theorem CellsK.mem {k : Nat} {w : World} : ∀ {l : List (Nat × Addr × Value)}, CellsK l k w → ∀ a v, (k, a, v) ∈ l → w.cell? a = some v
 | [], _, a, v, h => by cases h
 | (x, b, u) :: r, h, a, v, hm => by
  rcases List.mem_cons.1 hm with e | hm
  ·injection e with e1 e; injection e with e2 e3
   subst e1 e2 e3
   exact h.1 (by simp)
  ·exact CellsK.mem h.2 a v hm
theorem seg_list {P : Program} {ops : Array Oper} {Q : Exit → Act → World → Prop} {F : FF} {N : Nat} {w : World} (fb : Operand → Value) :
  ∀ (l m : List (Nat × Oper)) (ans : List An) (E E' : Env) (q : List Rq) (f : List (Nat × Addr × Value)), evR P ops F.2.1 N fb l ans E = some (E', q, f) → RqOK q w → (∀ p ∈ f, p ∈ F.1) →
  (∀ a, Has N E' fb a → wpL P ops Q F m a w) → ∀ a, Has N E fb a → wpL P ops Q F (l ++ m) a w := by
 intro l
 induction l with
 | nil => intro m ans E E' q f h hq hf k a ha; simp [evR] at h; exact k a (h.1 ▸ ha)
 | cons ko r ih =>
  intro m ans E E' q f h hq hf k a ha
  obtain ⟨kk, o⟩ := ko
  have core : Region.wanted o (yielded ops a.tmps) = true → (match evO P (rho E fb) o ans with
   | some (v, l', q) => match o.dst with
    | some d => bif Nat.blt d N then (match evR P ops F.2.1 N fb r l' ((d, v) :: E) with
      | some (E', q', f') => bif memN kk F.2.1 then (bif rqNoObj q then some (E', rqRest q ++ q', (rqCells q).map (fun p => (kk, p.1, p.2)) ++ f') else none) else some (E', q ++ q', f')
      | none => none) else none
    | none => none
   | _ => none) = some (E', q, f) → wpL P ops Q F ((kk, o) :: (r ++ m)) a w := by
   intro hw h
   split at h
   ·rename_i v l' q1 he
    split at h
    ·rename_i d hd
     cases hb : Nat.blt d N
     ·rw [hb] at h; cases h
     ·rw [hb] at h
      simp only [cond_true] at h
      split at h
      ·rename_i E1 q2 f2 h2
       unfold wpL
       rw [if_pos hw]
       cases hfl : memN kk F.2.1
       ·rw [hfl] at h
        simp only [cond_false] at h
        injection h with h; injection h with h3 h; injection h with h4 h5
        subst h3 h4 h5
        rw [if_neg (by simp)]
        left
        unfold Oper.wpA
        rw [ha.ev, evO_run he hq.left]
        simp only [upA]
        refine ⟨by simp, ih m l' _ _ _ _ h2 hq.right hf k _ ?_⟩
        rw [hd]
        exact ha.put (blt_lt hb) v
       ·rw [hfl] at h
        simp only [cond_true] at h
        cases hno : rqNoObj q1
        ·rw [hno] at h; cases h
        ·rw [hno] at h
         simp only [cond_true] at h
         injection h with h; injection h with h3 h; injection h with h4 h5
         subst h3 h4 h5
         rw [if_pos rfl]
         refine ⟨v, fun w' hw' => ?_, ih m l' _ _ _ _ h2 hq.right (fun p hp => hf p (List.mem_append_right _ hp)) k _ ?_⟩
         ·rw [ha.ev]
          exact evO_run he (rq_split hno hq.left (fun p hp => hw'.mem p.1 p.2 (hf (kk, p.1, p.2) (List.mem_append_left _ (List.mem_map.2 ⟨p, hp, rfl⟩)))))
         ·rw [hd]
          exact ha.put (blt_lt hb) v
      ·cases h
    ·cases h
   ·cases h
  show wpL P ops Q F ((kk, o) :: (r ++ m)) a w
  simp only [evR] at h
  split at h
  ·rename_i j want hg
   split at h
   ·rename_i dj hdj
    split at h
    ·rename_i b hb
     have hy := yielded_of ha hdj hb
     cases hbw : (b == want)
     ·rw [hbw] at h
      simp only [cond_false] at h
      have hwf : Region.wanted o (yielded ops a.tmps) = false := by
       simp only [Region.wanted, hg, hy]
       cases b <;> cases want <;> first | rfl | cases hbw
      unfold wpL
      rw [if_neg (by rw [hwf]; simp)]
      split at h
      ·rename_i d hd
       cases hbd : Nat.blt d N
       ·rw [hbd] at h; cases h
       ·rw [hbd] at h
        simp only [cond_true] at h
        refine ih m ans _ _ _ _ h hq hf k _ ?_
        rw [hd]
        exact ha.put (blt_lt hbd) undef
      ·rename_i hd
       refine ih m ans _ _ _ _ h hq hf k _ ?_
       rw [hd]
       exact ha
     ·rw [hbw] at h
      simp only [cond_true] at h
      refine core ?_ h
      simp only [Region.wanted, hg, hy]
      cases b <;> cases want <;> first | rfl | cases hbw
    ·rename_i b hb
     have hy := yielded_no ha hdj hb
     have hwf : Region.wanted o (yielded ops a.tmps) = false := by
      simp only [Region.wanted, hg, hy]
      cases want <;> rfl
     unfold wpL
     rw [if_neg (by rw [hwf]; simp)]
     split at h
     ·rename_i d hd
      cases hbd : Nat.blt d N
      ·rw [hbd] at h; cases h
      ·rw [hbd] at h
       simp only [cond_true] at h
       refine ih m ans _ _ _ _ h hq hf k _ ?_
       rw [hd]
       exact ha.put (blt_lt hbd) undef
     ·rename_i hd
      refine ih m ans _ _ _ _ h hq hf k _ ?_
      rw [hd]
      exact ha
    ·cases h
   ·cases h
  ·rename_i hg
   exact core (by simp [Region.wanted, hg]) h
def evK (P : Program) (ops : Array Oper) (lst : List (Nat × Oper)) (fl : List Nat) (N : Nat) (fb : Operand → Value) (i j : Nat) (ans : List An) (E : Env) (ks : List Nat) : Option (Env × List Rq × List (Nat × Addr × Value)) :=
 match evR P ops fl N fb ((lst.drop i).take (j - i)) ans E with
 | some (E', q, f) => match pick E' ks with
  | some E'' => some (E'', q, f)
  | none => none
 | none => none
def getAll (F : List (Nat × Addr × Value)) : List Nat → Option (List (Nat × Addr × Value))
 | [] => some []
 | i :: r => match F[i]?, getAll F r with
  | some p, some l => some (p :: l)
  | _, _ => none
theorem getAll_sub {F : List (Nat × Addr × Value)} : ∀ {pos : List Nat} {f : List (Nat × Addr × Value)}, getAll F pos = some f → ∀ p ∈ f, p ∈ F
 | [], f, h, p, hp => by simp [getAll] at h; subst h; cases hp
 | i :: r, f, h, p, hp => by
  simp only [getAll] at h
  split at h
  ·rename_i q l h1 h2
   injection h with h; subst h
   rcases List.mem_cons.1 hp with rfl | hp
   ·exact List.mem_of_getElem? h1
   ·exact getAll_sub h2 p hp
  ·cases h
theorem segF {P : Program} {ops : Array Oper} {lst : List (Nat × Oper)} {Q : Exit → Act → World → Prop} {F : FF} {N : Nat} {w : World} {i : Nat} {E : Env} (j : Nat) (ans : List An) (ks : List Nat) (E' : Env) (q : List Rq) (pos : List Nat) (f : List (Nat × Addr × Value))
  (h : ∀ fb, evK P ops lst F.2.1 N fb i j ans E ks = some (E', q, f)) (hij : (i + (j - i)) = j) (hq : RqOK q w) (hpos : getAll F.1 pos = some f) (k : WL P ops lst Q F j N E' w) : WL P ops lst Q F i N E w := by
 intro fb a ha
 have h := h fb
 unfold evK at h
 split at h
 ·rename_i E1 q1 f1 h1
  split at h
  ·rename_i E2 h2
   injection h with h; injection h with h3 h; injection h with h4 h5
   subst h3 h4 h5
   have e : lst.drop i = (lst.drop i).take (j - i) ++ lst.drop j := by
    conv => lhs; rw [← List.take_append_drop (j - i) (lst.drop i)]
    rw [List.drop_drop, hij]
   rw [e]
   exact seg_list fb _ _ ans E _ _ _ h1 hq (getAll_sub hpos) (fun a ha => k _ a (ha.picked h2)) a ha
  ·cases h
 ·cases h
theorem seg {P : Program} {ops : Array Oper} {lst : List (Nat × Oper)} {Q : Exit → Act → World → Prop} {F : FF} {N : Nat} {w : World} {i : Nat} {E : Env} (j : Nat) (ans : List An) (ks : List Nat) (E' : Env) (q : List Rq)
  (h : ∀ fb, evK P ops lst F.2.1 N fb i j ans E ks = some (E', q, [])) (hij : (i + (j - i)) = j) (hq : RqOK q w) (k : WL P ops lst Q F j N E' w) : WL P ops lst Q F i N E w :=
 segF j ans ks E' q [] [] h hij hq rfl k
theorem sg {P : Program} {ops : Array Oper} {lst : List (Nat × Oper)} {Q : Exit → Act → World → Prop} {F : FF} {N : Nat} {w : World} {i : Nat} {E : Env} (j : Nat) (ans : List An) (ks : List Nat) (E' : Env)
  (h : (fun fb => evK P ops lst F.2.1 N fb i j ans E ks) = fun _ => some (E', [], [])) (k : WL P ops lst Q F j N E' w) (hij : (i + (j - i)) = j := by rfl) : WL P ops lst Q F i N E w :=
 seg j ans ks E' [] (fun fb => congrFun h fb) hij trivial k
theorem WL.done {P : Program} {ops : Array Oper} {lst : List (Nat × Oper)} {Q : Exit → Act → World → Prop} {F : FF} {i N : Nat} {E : Env} {w : World} (h : lst.drop i = []) (k : WX Q .normal N E w) : WL P ops lst Q F i N E w := by
 intro fb a ha; rw [h]; exact k fb a ha
theorem WC.region {P : Program} {id : Nat} {ops : Array Oper} {Q : Exit → Act → World → Prop} {N : Nat} {E : Env} {w : World} (h : WL P ops (allOps ops) Q NF 0 N E w) : WC P (.region id ops false) Q N E w :=
 fun fb a ha => wpA_region_list (by have := wpL_list _ _ _ (h fb a ha); rwa [show ((allOps ops).drop 0).map (·.2) = ops.toList from num_map _ _] at this)
theorem WC.seq {P : Program} {x y : Code} {Q : Exit → Act → World → Prop} {N : Nat} {E : Env} {w : World} (h : WC P x (Exit.then (y.wpA P Q) Q) N E w) : WC P (.seq x y) Q N E w :=
 fun fb a ha => wpA_seq (h fb a ha)
theorem WX.next {P : Program} {y : Code} {Q : Exit → Act → World → Prop} {N : Nat} {E : Env} {w : World} (h : WC P y Q N E w) : WX (Exit.then (y.wpA P Q) Q) .normal N E w := h
theorem WX.thenX {K : Act → World → Prop} {Q : Exit → Act → World → Prop} {id : Nat} {N : Nat} {E : Env} {w : World} (h : WX Q (.exit id) N E w) : WX (Exit.then K Q) (.exit id) N E w := h
theorem WX.thenR {K : Act → World → Prop} {Q : Exit → Act → World → Prop} {N : Nat} {E : Env} {w : World} (h : WX Q .ret N E w) : WX (Exit.then K Q) .ret N E w := h
theorem WX.blockN {Q : Exit → Act → World → Prop} {id : Nat} {N : Nat} {E : Env} {w : World} (h : WX Q .normal N E w) : WX (Exit.inBlock id Q) .normal N E w := h
theorem WX.blockR {Q : Exit → Act → World → Prop} {id : Nat} {N : Nat} {E : Env} {w : World} (h : WX Q .ret N E w) : WX (Exit.inBlock id Q) .ret N E w := h
theorem WX.blockHere {Q : Exit → Act → World → Prop} {id : Nat} {N : Nat} {E : Env} {w : World} (h : WX Q .normal N E w) : WX (Exit.inBlock id Q) (.exit id) N E w := by
 intro fb a ha; simp only [Exit.inBlock, if_true]; exact h fb a ha
theorem WC.block {P : Program} {id : Nat} {c : Code} {Q : Exit → Act → World → Prop} {N : Nat} {E : Env} {w : World} (h : WC P c (Exit.inBlock id Q) N E w) : WC P (.block id c) Q N E w :=
 fun fb a ha => wpA_block (h fb a ha)
theorem WC.skip {P : Program} {Q : Exit → Act → World → Prop} {N : Nat} {E : Env} {w : World} (h : WX Q .normal N E w) : WC P .skip Q N E w := fun fb a ha => wpA_skip (h fb a ha)
theorem WC.ret {P : Program} {Q : Exit → Act → World → Prop} {N : Nat} {E : Env} {w : World} (h : WX Q .ret N E w) : WC P .ret Q N E w := fun fb a ha => wpA_ret (h fb a ha)
theorem WC.exit {P : Program} {id : Nat} {Q : Exit → Act → World → Prop} {N : Nat} {E : Env} {w : World} (h : WX Q (.exit id) N E w) : WC P (.exit id) Q N E w := fun fb a ha => wpA_exit (h fb a ha)
theorem WC.cond {P : Program} {c : Operand} {x y : Code} {Q : Exit → Act → World → Prop} {N : Nat} {E : Env} {w : World} (b : Bool) (hc : ∀ fb, rho E fb c = .bool b) (ht : b = true → WC P x Q N E w) (hf : b = false → WC P y Q N E w) : WC P (.cond c x y) Q N E w :=
 fun fb a ha => wpA_cond_split (by rw [ha.ev]; exact hc fb) (fun e => ht e fb a ha) (fun e => hf e fb a ha)
theorem WC.keep {P : Program} {c : Code} {Q : Exit → Act → World → Prop} {N : Nat} {E : Env} {w : World} (ks : List Nat) (E' : Env) (h : pick E ks = some E') (k : WC P c Q N E' w) : WC P c Q N E w :=
 fun fb a ha => k _ a (ha.picked h)
theorem WK.keep {K : Act → World → Prop} {N : Nat} {E : Env} {w : World} (ks : List Nat) (E' : Env) (h : pick E ks = some E') (k : WK K N E' w) : WK K N E w :=
 fun fb a ha => k _ a (ha.picked h)
theorem WX.keep {Q : Exit → Act → World → Prop} {e : Exit} {N : Nat} {E : Env} {w : World} (ks : List Nat) (E' : Env) (h : pick E ks = some E') (k : WX Q e N E' w) : WX Q e N E w :=
 fun fb a ha => k _ a (ha.picked h)
theorem calls_enter {P : Program} {f : FuncId} {fn : Func} {c : Code} {args : Array Value} {w : World} {R : Ending → World → Prop} (N : Nat) (E : Env)
  (hf : P.funcs[f]? = some fn) (hb : fn.body = some c) (hn : fn.ntmps = N) (hs : args.size ≤ N) (hmk : N ≤ MK)
  (hE : ∀ t v, lk E t = some v → args[t]? = some v)
  (h : WC P c (bodyPostA P fn R) N E w) : Calls P f args w R := by
 refine calls_of_wpA hf hb ?_
 have hno : lk E MK = none := by
  cases hl : lk E MK with
  | none => rfl
  | some v =>
   have := hE _ _ hl
   rw [Array.getElem?_eq_none (by omega)] at this; cases this
 refine h (Act.eval { tmps := args ++ Array.replicate (fn.ntmps - args.size) undef, defers := [] }) _ ⟨?_, hmk, by rw [hno], funext fun x => ?_⟩
 ·simp [hn]; omega
 ·cases x with
  | tmp t =>
   simp only [rho]
   cases Nat.beq t MK
   rotate_left
   ·rfl
   simp only [cond_false]
   split
   ·rename_i v hv
    have := hE t v hv
    have hlt : t < args.size := by
     rcases Nat.lt_or_ge t args.size with h | h
     ·exact h
     ·rw [Array.getElem?_eq_none h] at this; cases this
    simp only [Act.eval, Array.getD_eq_getD_getElem?]
    rw [Array.getElem?_append_left hlt, this]; rfl
   ·rfl
  | const v => rfl
  | global g => rfl
  | func f => rfl
end Gw
namespace Gw
open Go Go.RowKit

/-! ### 4. memory: what is kept, what is read, what is owned -/
structure Own where
 fp : Nat → Prop
 ok : World → Prop
 loc : ∀ w w' : World, (∀ g, fp g → w'.heap[g]? = w.heap[g]?) → ok w → ok w'
def emp : Own := ⟨fun _ => False, fun _ => True, fun _ _ _ _ => trivial⟩
def blk (g : Nat) (o : Obj) : Own := ⟨fun k => k = g, fun w => w.heap[g]? = some o, fun _ _ h k => (h g rfl).trans k⟩
def at_ : List Own → Nat → Own
 | [], _ => emp
 | o :: _, 0 => o
 | _ :: r, i + 1 => at_ r i
theorem at_nil (i : Nat) : at_ [] i = emp := by cases i <;> rfl
theorem at_append (A B : List Own) (i : Nat) : at_ (A ++ B) i = if i < A.length then at_ A i else at_ B (i - A.length) := by
 induction A generalizing i with
 | nil => simp
 | cons o A ih =>
  cases i with
  | zero => simp [at_]
  | succ i => simp only [List.cons_append, at_, ih, List.length_cons, Nat.add_lt_add_iff_right, Nat.add_sub_add_right]
def sel (L : List Own) (ks : List Nat) : List Own := ks.map (at_ L)
theorem at_sel (L : List Own) (ks : List Nat) (i : Nat) : at_ (sel L ks) i = match ks[i]? with
  | some k => at_ L k
  | none => emp := by
 unfold sel
 induction ks generalizing i with
 | nil => simp [at_nil]
 | cons k ks ih =>
  cases i with
  | zero => simp [at_]
  | succ i => simp [at_, ih]
def NoS : Nat → Prop := fun _ => False
/-! no operation lowers the count of draws -/
theorem ask_mono {α : Type} (a : Ask α) : ∀ w : World, w.drawn ≤ (w.ask a).2.drawn := by
 induction a with
 | done a => intro w; exact Nat.le_refl _
 | ask what range k ih =>
  intro w
  simp only [World.ask]
  split
  ·exact ih _ _
  ·have h2 := ih ((Question.extern what range).cut (w.tape w.drawn (Question.extern what range))) { w with drawn := w.drawn + 1 }
   exact Nat.le_trans (Nat.le_succ _) h2
theorem sys_mono (w : World) (c : Sys) : w.drawn ≤ (w.sys c).2.drawn := by
 have h := ask_mono (Kernel.perform c w.os) w
 unfold World.sys
 split
 ·exact Nat.le_refl _
 ·rename_i r os w1 _ he
  rw [he] at h
  exact h
theorem view_mono {P : Program} {w w1 : World} {at_ k : Addr} {u : TypeId} {v : Value} {b : Bool} {l : List Addr} (h : w.viewStore P at_ u k v b = .ok (w1, l)) : w1.drawn = w.drawn := by
 unfold World.viewStore at h
 simp only [bind, Except.bind, pure, Except.pure] at h
 repeat' split at h
 all_goals first | (cases h; done) | (injection h with h; injection h with h1 h2; rw [← h1]) | simp_all
theorem far_mono {P : Program} {w w1 : World} {a : Addr} {v : Value} {b : Bool} {l : List Addr} (h : w.farStore P a v b = .ok (w1, l)) : w1.drawn = w.drawn := by
 unfold World.farStore at h
 split at h
 ·split at h
  ·rename_i r hr
   injection h with h
   subst h
   exact view_mono hr
  ·cases h
 ·cases h
theorem freeze_mono (w : World) (a : Addr) (n : Nat) : (w.freeze a n).drawn = w.drawn := by
 unfold World.freeze; split <;> rfl
theorem run_mono {α : Type} {P : Program} (s : Sem α) : ∀ (x : α) (w w' : World), s.run P w = .ok x w' → w.drawn ≤ w'.drawn := by
 induction s with
 | pure a => intro x w w' h; simp only [Sem.run, Result.ok.injEq] at h; rw [h.2]; exact Nat.le_refl _
 | load m a k ih =>
  intro x w w' h
  simp only [Sem.run] at h
  split at h
  ·exact ih _ _ _ _ h
  ·split at h
   ·exact ih _ _ _ _ h
   ·cases h
 | store m a v k ih =>
  intro x w w' h
  have key : (match w.cell? a with
   | some _ => if w.frozen? a then Result.halt (.unsupported (.unsafePointer "a write to bytes that a string shares")) w else k.run P (w.setCell a v)
   | none => match w.farStore P a v (m == Mode.atomic) with
    | .ok (w, _) => k.run P w
    | .error h => .halt h w) = .ok x w' → w.drawn ≤ w'.drawn := by
   intro h
   split at h
   ·split at h
    ·cases h
    ·have h2 := ih _ _ _ h; exact h2
   ·split at h
    ·rename_i he
     have h2 := ih _ _ _ h
     rw [far_mono he] at h2; exact h2
    ·cases h
  cases v <;> first | exact key h | cases h
 | new o k ih => intro x w w' h; have h2 := ih _ _ _ _ h; exact h2
 | shape r k ih => intro x w w' h; exact ih _ _ _ _ h
 | freeze a n k ih => intro x w w' h; have h2 := ih _ _ _ h; rw [freeze_mono] at h2; exact h2
 | frozen a k ih => intro x w w' h; exact ih _ _ _ _ h
 | getObj r k ih =>
  intro x w w' h
  simp only [Sem.run] at h
  split at h
  ·cases h
  ·exact ih _ _ _ _ h
  ·cases h
 | setObj r o k ih =>
  intro x w w' h
  simp only [Sem.run] at h
  split at h
  ·cases h
  ·have h2 := ih _ _ _ h; exact h2
  ·cases h
 | choose q k ih =>
  intro x w w' h
  simp only [Sem.run] at h
  split at h
  ·exact ih _ _ _ _ h
  ·have h2 := ih _ _ _ _ h; exact Nat.le_trans (Nat.le_succ _) h2
 | sys c k ih => intro x w w' h; have h2 := ih _ _ _ _ h; exact Nat.le_trans (sys_mono w c) h2
 | program k ih => intro x w w' h; exact ih _ _ _ _ h
 | mark m k ih => intro x w w' h; exact ih _ _ _ h
 | halt h => intro x w w' h; cases h
def DR : Prop := True
structure Keeps (S : Nat → Prop) (w w' : World) : Prop where
 os : w'.os = w.os
 tape : w'.tape = w.tape
 output : w'.output = w.output
 size : w.heap.size ≤ w'.heap.size
 block : ∀ k, k < w.heap.size → ¬ S k → w'.heap[k]? = w.heap[k]?
 drawn : DR → w.drawn ≤ w'.drawn
theorem Keeps.refl (S : Nat → Prop) (w : World) : Keeps S w w := ⟨rfl, rfl, rfl, Nat.le_refl _, fun _ _ _ => rfl, fun _ => Nat.le_refl _⟩
theorem Keeps.trans {S T : Nat → Prop} {a b c : World} (h : Keeps S a b) (k : Keeps T b c) (hT : ∀ g, T g → S g ∨ a.heap.size ≤ g) : Keeps S a c :=
 ⟨k.os.trans h.os, k.tape.trans h.tape, k.output.trans h.output, Nat.le_trans h.size k.size, fun i hi hs =>
  (k.block i (Nat.lt_of_lt_of_le hi h.size) (fun ht => (hT i ht).elim hs (fun h' => by omega))).trans (h.block i hi hs), fun d => Nat.le_trans (h.drawn d) (k.drawn d)⟩
theorem Keeps.below {w w' : World} (h : Keeps NoS w w') : Below w.heap.size w w' := ⟨h.os, h.tape, h.output, h.size, fun k hk => h.block k hk id⟩
theorem Keeps.of_below {w w' : World} (h : Below w.heap.size w w') (hd : DR → w.drawn ≤ w'.drawn) : Keeps NoS w w' := ⟨h.os, h.tape, h.output, h.size, fun k hk _ => h.block k hk, hd⟩
theorem Keeps.alloc (w : World) (o : Obj) : Keeps NoS w (w.alloc o) := Keeps.of_below ((Below.refl _ _).alloc (Nat.le_refl _) o) (fun _ => Nat.le_refl _)

def RO (S : Nat → Prop) (w : World) (o : Own) : Prop := o.ok w ∧ ∀ g, o.fp g → g < w.heap.size ∧ ¬ S g
structure St (S : Nat → Prop) (w0 w : World) (R L : List Own) : Prop where
 keep : Keeps S w0 w
 ro : ∀ i, (at_ R i).ok w ∧ ∀ g, (at_ R i).fp g → g < w.heap.size ∧ ∀ j, ¬ (at_ L j).fp g
 own : ∀ i, (at_ L i).ok w ∧ ∀ g, (at_ L i).fp g → (S g ∨ w0.heap.size ≤ g) ∧ g < w.heap.size
 sep : ∀ i j, i ≠ j → ∀ g, (at_ L i).fp g → ¬ (at_ L j).fp g
theorem St.go {S : Nat → Prop} {w0 w : World} {R L : List Own} (_ : St S w0 w R L) (w' : World) (L' : List Own) (p : St S w0 w' R L') : St S w0 w' R L' := p
theorem emp_ro (S : Nat → Prop) (w : World) : RO S w emp := ⟨trivial, fun _ h => h.elim⟩
theorem ro_nil (S : Nat → Prop) (w : World) : ∀ i, RO S w (at_ [] i) := fun i => by rw [at_nil]; exact emp_ro S w
theorem ro_cons {S : Nat → Prop} {w : World} {o : Own} {R : List Own} (h : RO S w o) (k : ∀ i, RO S w (at_ R i)) : ∀ i, RO S w (at_ (o :: R) i)
 | 0 => h
 | i + 1 => k i
theorem St.init {S : Nat → Prop} {w : World} {R : List Own} (h : ∀ i, RO S w (at_ R i)) : St S w w R [] :=
 ⟨Keeps.refl _ _, fun i => ⟨(h i).1, fun g hg => ⟨((h i).2 g hg).1, fun j hj => by rw [at_nil] at hj; exact hj⟩⟩, fun i => by rw [at_nil]; exact ⟨trivial, fun _ h => h.elim⟩, fun i j _ g h => by rw [at_nil] at h; exact h.elim⟩
theorem St.rd {S : Nat → Prop} {w0 w : World} {R L : List Own} (h : St S w0 w R L) (i : Nat) : RO NoS w (at_ R i) := ⟨(h.ro i).1, fun g hg => ⟨((h.ro i).2 g hg).1, id⟩⟩
theorem St.ow {S : Nat → Prop} {w0 w : World} {R L : List Own} (h : St S w0 w R L) (i : Nat) : RO NoS w (at_ L i) := ⟨(h.own i).1, fun g hg => ⟨((h.own i).2 g hg).2, id⟩⟩
theorem St.call {S T : Nat → Prop} {w0 w w' : World} {R L Rc Lc : List Own} (h : St S w0 w R L) (hc : St T w w' Rc Lc) (is ks : List Nat)
  (hT : ∀ g, T g → ∃ i, i ∈ is ∧ (at_ L i).fp g) (hd : ∀ k, k ∈ ks → k ∉ is) (hn : ks.Nodup) : St S w0 w' R (Lc ++ sel L ks) := by
 have hTS : ∀ g, T g → (S g ∨ w0.heap.size ≤ g) := fun g hg => by
  obtain ⟨i, _, hi⟩ := hT g hg
  exact ((h.own i).2 g hi).1
 have hnT : ∀ k, k ∈ ks → ∀ g, (at_ L k).fp g → ¬ T g := fun k hk g hg ht => by
  obtain ⟨i, hi, hf⟩ := hT g ht
  exact h.sep k i (fun e => hd k hk (e ▸ hi)) g hg hf
 have roT : ∀ i g, (at_ R i).fp g → ¬ T g := fun i g hg ht => by
  obtain ⟨j, _, hj⟩ := hT g ht
  exact ((h.ro i).2 g hg).2 j hj
 refine ⟨h.keep.trans hc.keep hTS, fun i => ⟨(at_ R i).loc w w' (fun g hg => hc.keep.block g ((h.ro i).2 g hg).1 (roT i g hg)) (h.ro i).1, fun g hg => ⟨Nat.lt_of_lt_of_le ((h.ro i).2 g hg).1 hc.keep.size, fun j hj => ?_⟩⟩, fun i => ?_, fun i j hij g hi hj => ?_⟩
 ·rw [at_append] at hj
  split at hj
  ·have h1 := ((hc.own j).2 g hj).1
   have h2 := ((h.ro i).2 g hg).1
   rcases h1 with h1 | h1
   ·exact roT i g hg h1
   ·omega
  ·rw [at_sel] at hj
   split at hj
   ·exact ((h.ro i).2 g hg).2 _ hj
   ·exact hj
 ·rw [at_append]
  split
  ·refine ⟨(hc.own i).1, fun g hg => ?_⟩
   have := (hc.own i).2 g hg
   refine ⟨this.1.elim (hTS g) (fun hw => .inr (Nat.le_trans h.keep.size hw)), this.2⟩
  ·rw [at_sel]
   split
   ·rename_i k hk
    have hmem : k ∈ ks := List.mem_of_getElem? hk
    refine ⟨(at_ L k).loc w w' (fun g hg => hc.keep.block g ((h.own k).2 g hg).2 (hnT k hmem g hg)) (h.own k).1, fun g hg => ?_⟩
    exact ⟨((h.own k).2 g hg).1, Nat.lt_of_lt_of_le ((h.own k).2 g hg).2 hc.keep.size⟩
   ·exact ⟨trivial, fun _ h => h.elim⟩
 ·rw [at_append] at hi hj
  have cross : ∀ i j, (at_ Lc i).fp g → (at_ (sel L ks) j).fp g → False := fun i j hi hj => by
   rw [at_sel] at hj
   split at hj
   ·rename_i k hk
    have hmem : k ∈ ks := List.mem_of_getElem? hk
    have h1 := (hc.own i).2 g hi
    rcases h1.1 with ht | hw
    ·exact hnT k hmem g hj ht
    ·have := ((h.own k).2 g hj).2; omega
   ·exact hj
  split at hi
  ·split at hj
   ·exact hc.sep i j hij g hi hj
   ·exact cross _ _ hi hj
  ·split at hj
   ·exact cross _ _ hj hi
   ·rw [at_sel] at hi hj
    split at hi
    ·rename_i k hk
     split at hj
     ·rename_i k' hk'
      have hne : k ≠ k' := fun e => by
       subst e
       have := (List.getElem?_inj (List.getElem?_eq_some_iff.1 hk).1 hn).1 (hk.trans hk'.symm)
       omega
      exact h.sep k k' hne g hi hj
     ·exact hj
    ·exact hi
theorem St.sub {S : Nat → Prop} {w0 w : World} {R L : List Own} (h : St S w0 w R L) (ks : List Nat) (hn : ks.Nodup) : St S w0 w R (sel L ks) :=
 h.call (T := NoS) (Rc := []) (Lc := []) (St.init (ro_nil _ _)) [] ks (fun g hg => hg.elim) (by simp) hn
theorem ro_nil' (w : World) (L : List Own) : ∀ i, (at_ [] i).ok w ∧ ∀ g, (at_ [] i).fp g → g < w.heap.size ∧ ∀ j, ¬ (at_ L j).fp g := fun i => by rw [at_nil]; exact ⟨trivial, fun _ h => h.elim⟩
theorem St.noR {S : Nat → Prop} {w0 w : World} {R L : List Own} (h : St S w0 w R L) : St S w0 w [] L := ⟨h.keep, ro_nil' _ _, h.own, h.sep⟩
theorem alloc_at (w : World) (o : Obj) : (w.alloc o).heap[w.heap.size]? = some o := by
 show (w.heap.push o)[w.heap.size]? = _
 simp
theorem alloc_size (w : World) (o : Obj) : (w.alloc o).heap.size = w.heap.size + 1 := by
 show (w.heap.push o).size = _
 simp
theorem St.one {S : Nat → Prop} {w w' : World} {o : Own} (hk : Keeps S w w') (ho : o.ok w') (hf : ∀ g, o.fp g → (S g ∨ w.heap.size ≤ g) ∧ g < w'.heap.size) : St S w w' [] [o] := by
 refine ⟨hk, ro_nil' _ _, fun i => ?_, fun i j hij g hi hj => ?_⟩
 ·match i with
  | 0 => exact ⟨ho, hf⟩
  | i + 1 => exact ⟨trivial, fun _ h => h.elim⟩
 ·match i, j with
  | 0, 0 => exact hij rfl
  | 0, j + 1 => exact hj
  | i + 1, _ => exact hi
theorem St.alloc1 (w : World) (o : Obj) : St NoS w (w.alloc o) [] [blk w.heap.size o] :=
 St.one (Keeps.alloc w o) (alloc_at w o) (fun g hg => by
  have : g = w.heap.size := hg
  subst this
  exact ⟨.inr (Nat.le_refl _), by rw [alloc_size]; omega⟩)
theorem St.new {S : Nat → Prop} {w0 w : World} {R L : List Own} (h : St S w0 w R L) (o : Obj) : St S w0 (w.alloc o) R (blk w.heap.size o :: L) := by
 have hh := h.call (St.alloc1 w o) [] (List.range L.length) (fun g hg => hg.elim) (by simp) List.nodup_range
 have e : sel L (List.range L.length) = L := by
  unfold sel
  apply List.ext_getElem
  ·simp
  ·intro i h1 h2
   simp only [List.getElem_map, List.getElem_range]
   clear hh h
   induction L generalizing i with
   | nil => simp at h2
   | cons o L ih =>
    cases i with
    | zero => rfl
    | succ i => simpa [at_] using ih i (by simpa using h1) (by simpa using h2)
 rw [e] at hh
 exact hh
theorem St.cell {S : Nat → Prop} {w0 w : World} {R L : List Own} (h : St S w0 w R L) (i : Nat) {g : Nat} {cs : Array Value} {T : TypeId} {fz : Nat × Nat} (hi : at_ L i = blk g (.cells cs T fz)) (k : Nat) {v : Value} (hk : cs[k]? = some v) :
  w.cell? ⟨g, k, none⟩ = some v := by
 have := (h.own i).1
 rw [hi] at this
 have this : w.heap[g]? = some (.cells cs T fz) := this
 simp [World.cell?, this, hk]

/-! ### 5. operations that make a block -/
def evN {α : Type} (P : Program) : Sem α → List An → Nat → Option (α × Obj × List Rq)
 | .new o k, _, g => match evS P (k g) [] with
  | some (x, _, []) => some (x, o, [])
  | _ => none
 | .load _ a k, .v v :: l, g => match evN P (k v) l g with
  | some (x, o, q) => some (x, o, .cell a v :: q)
  | none => none
 | .program k, l, g => evN P (k P) l g
 | _, _, _ => none
theorem evN_run {α : Type} {P : Program} {w : World} : ∀ (s : Sem α) {l : List An} {x : α} {o : Obj} {q : List Rq}, evN P s l w.heap.size = some (x, o, q) → RqOK q w → s.run P w = .ok x (w.alloc o) := by
 intro s
 induction s with
 | new o k ih =>
  intro l x o' q h hq
  simp only [evN] at h
  split at h
  ·rename_i x1 l1 he
   injection h with h; injection h with h1 h2; injection h2 with h2 h3
   subst h1 h2
   simp only [Sem.run]
   exact evS_run (w := w.alloc o) _ he trivial
  ·cases h
 | load m a k ih =>
  intro l x o' q h hc
  cases l with
  | nil => simp [evN] at h
  | cons v l =>
   cases v with
   | o o => simp [evN] at h
   | p => simp [evN] at h
   | v v =>
    simp only [evN] at h
    split at h
    ·rename_i x1 l1 q1 he
     injection h with h
     injection h with h1 h2
     injection h2 with h2 h3
     subst h1 h2 h3
     simp only [Sem.run, hc.1]
     exact ih v he hc.2
    ·cases h
 | program k ih => intro l x o' q h hc; simp only [evN] at h; simp only [Sem.run]; exact ih P h hc
 | _ => intro l x o' q h hc; simp [evN] at h
def wantE (ops : Array Oper) (E : Env) (o : Oper) : Bool :=
 match o.guard with
 | none => true
 | some (j, want) => match (ops[j]?).bind (·.dst) with
  | some dj => match lk E dj with
   | some (.bool b) => b == want
   | _ => false
  | none => false
theorem wantE_of {N : Nat} {E : Env} {fb : Operand → Value} {a : Act} (ha : Has N E fb a) {ops : Array Oper} {o : Oper} (h : wantE ops E o = true) : Region.wanted o (yielded ops a.tmps) = true := by
 unfold wantE at h
 split at h
 ·rename_i hg; simp [Region.wanted, hg]
 ·rename_i j want hg
  split at h
  ·rename_i dj hdj
   split at h
   ·rename_i b hb
    have hy := yielded_of ha hdj hb
    simp only [Region.wanted, hg, hy]
    cases b <;> cases want <;> first | rfl | cases h
   ·cases h
  ·cases h
def evNi (P : Program) (ops : Array Oper) (lst : List (Nat × Oper)) (fl : List Nat) (N : Nat) (fb : Operand → Value) (i : Nat) (ans : List An) (E : Env) (g : Nat) : Option (Nat × Value × Obj × List Rq) :=
 match lst.drop i with
 | (k, o) :: _ => bif wantE ops E o && !memN k fl then (match evN P (execOp (rho E fb) o) ans g, o.dst with
  | some (.value v, ob, q), some d => bif Nat.blt d N then some (d, v, ob, q) else none
  | _, _ => none) else none
 | [] => none
theorem CellsOK.alloc {F : List (Addr × Value)} {w : World} (h : CellsOK F w) (o : Obj) : CellsOK F (w.alloc o) := by
 induction F with
 | nil => trivial
 | cons p F ih =>
  obtain ⟨a, v⟩ := p
  exact ⟨pw_cell h.1 o, ih h.2⟩
where
 pw_cell {w : World} {a : Addr} {v : Value} (h : w.cell? a = some v) (o : Obj) : (w.alloc o).cell? a = some v := by
  have := World.block_lt_of_cell? w a h
  rw [((Below.refl w.heap.size w).alloc (Nat.le_refl _) o).cell this]; exact h
def CellsA (F : FF) (lst : List (Nat × Oper)) (i : Nat) (w : World) : Prop := match lst.drop i with
 | (k, _) :: _ => CellsX F.1 (rowB F.2.2 k) w
 | [] => True
theorem CellsA.at {F : FF} {lst : List (Nat × Oper)} {i : Nat} {w : World} (h : CellsA F lst i w) {k : Nat} {o : Oper} {r : List (Nat × Oper)} (e : lst.drop i = (k, o) :: r) : CellsX F.1 (rowB F.2.2 k) w := by
 unfold CellsA at h; rw [e] at h; exact h
theorem WL.new {P : Program} {ops : Array Oper} {lst : List (Nat × Oper)} {Q : Exit → Act → World → Prop} {F : FF} {N : Nat} {i : Nat} {E : Env} {S : Nat → Prop} {w0 w : World} {R L : List Own} (hS : St S w0 w R L)
  (d : Nat) (ans : List An) (V : Nat → Value) (O : Obj) (q : List Rq) (h : ∀ fb g, evNi P ops lst F.2.1 N fb i ans E g = some (d, V g, O, q)) (hq : RqOK q w)
  (k : ∀ g w1, St S w0 w1 R (blk g O :: L) → (CellsA F lst i w1 ∧ WL P ops lst Q F (i + 1) N ((d, V g) :: E) w1)) : WL P ops lst Q F i N E w := by
 intro fb a ha
 have h := h fb w.heap.size
 unfold evNi at h
 split at h
 ·rename_i k_ o r ho
  cases hw2 : (wantE ops E o && !memN k_ F.2.1)
  ·rw [hw2] at h; cases h
  ·rw [hw2] at h
   simp only [cond_true] at h
   simp only [Bool.and_eq_true, Bool.not_eq_true'] at hw2
   obtain ⟨hw, hfl⟩ := hw2
   split at h
   ·rename_i v ob q' d' he hd
    cases hb : Nat.blt d' N
    ·rw [hb] at h; cases h
    ·rw [hb] at h
     simp only [cond_true] at h
     injection h with h; injection h with h1 h2; injection h2 with h2 h3; injection h3 with h3 h4
     subst h1 h2 h3 h4
     rw [ho]
     unfold wpL
     rw [if_pos (wantE_of ha hw)]
     rw [if_neg (by rw [hfl]; simp)]; left
     unfold Oper.wpA
     rw [ha.ev, evN_run _ he hq]
     simp only [upA]
     obtain ⟨hc, hk⟩ := k w.heap.size (w.alloc ob) (hS.new ob)
     refine ⟨.inr (hc.at ho), ?_⟩
     have hk := hk fb (a.put o.dst (V w.heap.size)) (by rw [hd]; exact ha.put (blt_lt hb) _)
     rw [drop_cons ho] at hk
     exact hk
   ·cases h
 ·cases h

/-! ### 6. stores into a block of one's own -/
def evW {α : Type} (P : Program) : Sem α → Option (α × List (Addr × Value))
 | .pure a => some (a, [])
 | .store _ _ (.agg _) _ => none
 | .store _ _ (.tuple _) _ => none
 | .store _ a v k => match evW P k with
  | some (x, ws) => some (x, (a, v) :: ws)
  | none => none
 | .program k => evW P (k P)
 | _ => none
def plainV : Value → Prop
 | .agg _ => False
 | .tuple _ => False
 | _ => True
def wrs (g : Nat) (ws : List (Nat × Value)) : List (Addr × Value) := ws.map fun p => (⟨g, p.1, none⟩, p.2)
def wrc (cs : Array Value) (ws : List (Nat × Value)) : Array Value := ws.foldl (fun c p => c.setIfInBounds p.1 p.2) cs
theorem evW_run {α : Type} {P : Program} {T : TypeId} {g : Nat} : ∀ (s : Sem α) {x : α} {ws : List (Nat × Value)} {w : World} {cs : Array Value}, evW P s = some (x, wrs g ws) → w.heap[g]? = some (.cells cs T (0, 0)) → (∀ p ∈ ws, p.1 < cs.size) →
  ∃ w', s.run P w = .ok x w' ∧ w'.heap[g]? = some (.cells (wrc cs ws) T (0, 0)) ∧ Keeps (fun k => k = g) w w' ∧ w'.heap.size = w.heap.size := by
 intro s
 induction s with
 | pure a =>
  intro x ws w cs h hg hb
  simp [evW] at h
  cases ws with
  | nil => exact ⟨w, by simp [Sem.run, h.1], hg, Keeps.refl _ _, rfl⟩
  | cons p r => simp [wrs] at h
 | store m a v k ih =>
  intro x ws w cs h hg hb
  have key : (match evW P k with
   | some (x, ws) => some (x, (a, v) :: ws)
   | none => none) = some (x, wrs g ws) → plainV v → ∃ w', (Sem.store m a v k).run P w = .ok x w' ∧ w'.heap[g]? = some (.cells (wrc cs ws) T (0, 0)) ∧ Keeps (fun k => k = g) w w' ∧ w'.heap.size = w.heap.size := by
   intro h hv
   split at h
   ·rename_i x1 ws1 he
    injection h with h; injection h with h1 h2
    subst h1
    cases ws with
    | nil => simp [wrs] at h2
    | cons p r =>
     simp only [wrs, List.map_cons] at h2
     injection h2 with h2 h3
     injection h2 with h4 h5
     subst h4 h5 h3
     have hp := hb p (List.mem_cons_self ..)
     have hcell : w.cell? ⟨g, p.1, none⟩ = some cs[p.1] := by simp [World.cell?, hg, hp]
     have hfz : w.frozen? ⟨g, p.1, none⟩ = false := by simp [World.frozen?, hg]
     have hset : (w.setCell ⟨g, p.1, none⟩ p.2).heap[g]? = some (.cells (cs.setIfInBounds p.1 p.2) T (0, 0)) := by
      simp [World.setCell, Array.getElem?_modify, hg]
     obtain ⟨w', hr, hg', hk, hs⟩ := ih (ws := r) (w := w.setCell ⟨g, p.1, none⟩ p.2) (cs := cs.setIfInBounds p.1 p.2) he hset (fun p' hp' => by simpa using hb p' (List.mem_cons_of_mem _ hp'))
     refine ⟨w', ?_, hg', ⟨hk.os, hk.tape, hk.output, ?_, fun j hj hne => ?_, fun d => hk.drawn d⟩, ?_⟩
     ·rw [← hr]
      obtain ⟨p1, p2⟩ := p
      cases p2 <;> first | exact hv.elim | simp [Sem.run, hcell, hfz]
     ·rw [hs]; simp [World.setCell]
     ·rw [hk.block j (by simpa [World.setCell] using hj) hne]
      exact Below.heap_setCell w ⟨g, p.1, none⟩ p.2 j (fun e => hne e)
     ·rw [hs]; simp [World.setCell]
   ·cases h
  cases v <;> first | (simp [evW] at h; done) | (exact key (by simpa only [evW] using h) trivial)
 | program k ih => intro x ws w cs h hg hb; simp only [evW] at h; simp only [Sem.run]; exact ih P h hg hb
 | _ => intro x ws w cs h hg hb; simp [evW] at h
def evWi (P : Program) (ops : Array Oper) (lst : List (Nat × Oper)) (fl : List Nat) (fb : Operand → Value) (i : Nat) (E : Env) : Option (List (Addr × Value)) :=
 match lst.drop i with
 | (k, o) :: _ => bif wantE ops E o && !memN k fl then (match evW P (execOp (rho E fb) o), o.dst with
  | some (.skip, ws), none => some ws
  | _, _ => none) else none
 | [] => none
theorem evWi_run {P : Program} {ops : Array Oper} {lst : List (Nat × Oper)} {Q : Exit → Act → World → Prop} {F : FF} {N : Nat} {i : Nat} {E : Env} {w : World} {ws : List (Addr × Value)} {fb : Operand → Value} {a : Act} (ha : Has N E fb a)
  (h : evWi P ops lst F.2.1 fb i E = some ws) (k : ∀ o, evW P (execOp (rho E fb) o) = some (.skip, ws) → ∃ w', (execOp (rho E fb) o).run P w = .ok .skip w' ∧ CellsA F lst i w' ∧ WL P ops lst Q F (i + 1) N E w') : wpL P ops Q F (lst.drop i) a w := by
 unfold evWi at h
 split at h
 ·rename_i k_ o r ho
  cases hw2 : (wantE ops E o && !memN k_ F.2.1)
  ·rw [hw2] at h; cases h
  ·rw [hw2] at h
   simp only [cond_true] at h
   simp only [Bool.and_eq_true, Bool.not_eq_true'] at hw2
   obtain ⟨hw, hfl⟩ := hw2
   split at h
   ·rename_i ws' he hd
    injection h with h
    subst h
    obtain ⟨w', hr, hF, hk⟩ := k o he
    rw [ho]
    unfold wpL
    rw [if_pos (wantE_of ha hw)]
    rw [if_neg (by rw [hfl]; simp)]; left
    unfold Oper.wpA
    rw [ha.ev, hr]
    simp only [upA, hd]
    have := hk fb a ha
    rw [drop_cons ho] at this
    exact ⟨.inr (hF.at ho), this⟩
   ·cases h
 ·cases h
theorem WL.store {P : Program} {ops : Array Oper} {lst : List (Nat × Oper)} {Q : Exit → Act → World → Prop} {F : FF} {N : Nat} {i : Nat} {E : Env} {S : Nat → Prop} {w0 w : World} {R L : List Own} (hS : St S w0 w R L)
  (j : Nat) {g : Nat} {cs : Array Value} {T : TypeId} (hj : at_ L j = blk g (.cells cs T (0, 0))) (ws : List (Nat × Value)) (cs' : Array Value)
  (h : ∀ fb, evWi P ops lst F.2.1 fb i E = some (wrs g ws)) (hb' : (ws.all fun p => Nat.blt p.1 cs.size) = true) (hcs : wrc cs ws = cs') (ks : List Nat) (hd : ∀ k, k ∈ ks → k ∉ [j]) (hn : ks.Nodup)
  (k : ∀ w1, St S w0 w1 R (blk g (.cells cs' T (0, 0)) :: sel L ks) → CellsA F lst i w1 ∧ WL P ops lst Q F (i + 1) N E w1) : WL P ops lst Q F i N E w := by
 have hb : ∀ p ∈ ws, p.1 < cs.size := fun p hp => blt_lt (List.all_eq_true.1 hb' p hp)
 intro fb a ha
 refine evWi_run ha (h fb) fun o he => ?_
 have hg : w.heap[g]? = some (.cells cs T (0, 0)) := by
  have := (hS.own j).1
  rw [hj] at this
  exact this
 obtain ⟨w', hr, hg', hk, hs⟩ := evW_run _ he hg hb
 have hS' : St (fun k => k = g) w w' [] [blk g (.cells cs' T (0, 0))] := St.one hk (by rw [← hcs]; exact hg') (fun k hk' => by
  have : k = g := hk'
  subst this
  exact ⟨.inl rfl, (Array.getElem?_eq_some_iff.1 hg').1⟩)
 exact ⟨w', hr, k w' (hS.call hS' [j] ks (fun k hk' => ⟨j, by simp, by rw [hj]; exact hk'⟩) hd hn)⟩

/-! ### 7. calls -/
def CallsR (P : Program) (f : FuncId) (args : Array Value) (w : World) (R : Value → World → Prop) : Prop :=
 Calls P f args w fun e w' => ∃ v, e = .returned v ∧ R v w'
def evCi (P : Program) (ops : Array Oper) (lst : List (Nat × Oper)) (fl : List Nat) (N : Nat) (fb : Operand → Value) (i : Nat) (E : Env) : Option (Option Nat × FuncId × Array Value) :=
 match lst.drop i with
 | (k, o) :: _ => bif wantE ops E o && !memN k fl then (match evS P (execOp (rho E fb) o) [] with
  | some (.enter f args, _, []) => (match o.dst with
   | some d => bif Nat.blt d N then some (some d, f, args) else none
   | none => some (none, f, args))
  | _ => none) else none
 | [] => none
def putE (d : Option Nat) (v : Value) (E : Env) : Env := match d with
 | some d => (d, v) :: E
 | none => E
theorem WL.call {P : Program} {ops : Array Oper} {lst : List (Nat × Oper)} {Q : Exit → Act → World → Prop} {F : FF} {N : Nat} {i : Nat} {E : Env} {w : World} {R : Value → World → Prop}
  (d : Option Nat) (f : FuncId) (args : Array Value) (h : ∀ fb, evCi P ops lst F.2.1 N fb i E = some (d, f, args)) (hc : CallsR P f args w R)
  (k : ∀ v w1, R v w1 → CellsA F lst i w1 ∧ WL P ops lst Q F (i + 1) N (putE d v E) w1) : WL P ops lst Q F i N E w := by
 intro fb a ha
 have h := h fb
 unfold evCi at h
 split at h
 ·rename_i k_ o r ho
  cases hw2 : (wantE ops E o && !memN k_ F.2.1)
  ·rw [hw2] at h; cases h
  ·rw [hw2] at h
   simp only [cond_true] at h
   simp only [Bool.and_eq_true, Bool.not_eq_true'] at hw2
   obtain ⟨hw, hfl⟩ := hw2
   split at h
   ·rename_i f' args' l' he
    rw [ho]
    unfold wpL
    rw [if_pos (wantE_of ha hw)]
    rw [if_neg (by rw [hfl]; simp)]; left
    unfold Oper.wpA
    rw [ha.ev, evS_run (w := w) _ he trivial]
    simp only [upA]
    have fin : ∀ d', o.dst = d' → (d', f', args') = (d, f, args) → (∀ x, d' = some x → x < N) → Calls P f' args' w fun
      | .returned v, w'' => (w'' = w ∨ CellsX F.1 (rowB F.2.2 k_) w'') ∧ wpL P ops Q F r (a.put o.dst v) w''
      | _, _ => False := by
     intro d' hd he' hlt
     injection he' with e1 e2
     injection e2 with e2 e3
     subst e1 e2 e3
     refine Calls.mono hc ?_
     rintro e w'' ⟨v, rfl, hR⟩
     obtain ⟨hF, hk⟩ := k v w'' hR
     refine ⟨.inr (hF.at ho), ?_⟩
     have hk := hk fb (a.put o.dst v) (by
      rw [hd]
      cases d' with
      | none => exact ha.putn v
      | some x => exact ha.put (hlt x rfl) v)
     rw [drop_cons ho] at hk
     exact hk
    split at h
    ·rename_i x hx
     cases hb : Nat.blt x N
     ·rw [hb] at h; cases h
     ·rw [hb] at h
      simp only [cond_true] at h
      injection h with h
      exact fin (some x) hx h (fun y hy => by injection hy with hy; subst hy; exact blt_lt hb)
    ·rename_i hx
     injection h with h
     exact fin none hx h (fun y hy => by cases hy)
   ·cases h
 ·cases h

/-! ### 8. the end of a function -/
def resS (fn : Func) (ρ : Operand → Value) : Sem Value := do
 let vs ← fn.results.mapM fun
  | .tmp t => pure (ρ (.tmp t))
  | .cell a t => do loadVar t (← asAddr (ρ (.tmp a)))
 pure (if h : vs.size = 1 then vs[0] else .tuple vs)
theorem results_eq {fn : Func} {N : Nat} {E : Env} {fb : Operand → Value} {a : Act} (ha : Has N E fb a) : results fn a.tmps = resS fn (rho E fb) := by
 unfold results resS
 have : ∀ t, a.tmps.getD t undef = rho E fb (.tmp t) := fun t => by rw [← ha.ev]; rfl
 simp only [this]
 rfl
theorem WX.ret_ {P : Program} {fn : Func} {R : Ending → World → Prop} {N : Nat} {E : Env} {w : World} (ans : List An) (v : Value) (q : List Rq) (h : ∀ fb, evS P (resS fn (rho E fb)) ans = some (v, [], q)) (hq : RqOK q w) (hR : R (.returned v) w) (hm : lk E MK = none := by rfl) : WX (bodyPostA P fn R) .ret N E w :=
 fun fb a ha => .inl ⟨ha.nodfr hm, v, by rw [results_eq ha]; exact evS_run _ (h fb) hq, hR⟩
theorem WX.end_ {P : Program} {fn : Func} {R : Ending → World → Prop} {N : Nat} {E : Env} {w : World} (ans : List An) (v : Value) (q : List Rq) (h : ∀ fb, evS P (resS fn (rho E fb)) ans = some (v, [], q)) (hq : RqOK q w) (hR : R (.returned v) w) (hm : lk E MK = none := by rfl) : WX (bodyPostA P fn R) .normal N E w :=
 fun fb a ha => .inl ⟨ha.nodfr hm, v, by rw [results_eq ha]; exact evS_run _ (h fb) hq, hR⟩
end Gw
namespace Gw
open Go Go.RowKit

/-! ### 9. rows -/
def w64 (n : Int) : Int := IntKind.i64.wrap n
def rdD {α : Type} (xs : List α) (i : Int) (d : α) : α := xs.getD i.toNat d
theorem rdD_at {α : Type} {xs : List α} {i : Int} {d : α} (h0 : 0 ≤ i) (h1 : i < (xs.length : Int)) : xs[i.toNat]? = some (rdD xs i d) := by
 have h : i.toNat < xs.length := by omega
 simp [rdD, List.getD_eq_getElem?_getD, List.getElem?_eq_getElem h]
structure Enc (α : Type) where
 sz : Nat
 enc : α → List Value
 len : ∀ x, (enc x).length = sz
 one : ∀ x u, u ∈ enc x → u.oneCell' = true
def encInt : Enc Int := ⟨1, fun x => [.int .i64 x], fun _ => rfl, fun x u h => by simp at h; subst h; rfl⟩
theorem adr_add_block (a : Addr) (n : Nat) : (a.add n).block = a.block := by unfold Addr.add; split <;> rfl
def rowR {α : Type} (e : Enc α) (A : Option Addr) (c : Nat) (xs : List α) : Own :=
  ⟨fun g => xs ≠ [] ∧ g = (adr A).block,
   fun w => (∀ j x, xs[j]? = some x → A = some (adr A) ∧ ∀ k v, (e.enc x)[k]? = some v → w.cell? (((adr A).add (j * e.sz)).add k) = some v) ∧ xs.length ≤ c,
   fun w w' h hk => ⟨fun j x hx => ⟨(hk.1 j x hx).1, fun k v hv => by
      have hne : xs ≠ [] := fun e => by rw [e] at hx; cases hx
      have := h (adr A).block ⟨hne, rfl⟩
      rw [World.cell?_of_block (w := w)]
      · exact (hk.1 j x hx).2 k v hv
      · simpa [adr_add_block] using this⟩, hk.2⟩⟩
def ownFp (A : Option Addr) : Nat → Prop := fun g => ∃ ad, A = some ad ∧ g = ad.block
def rowO {α : Type} (T : TypeId) (e : Enc α) (A : Option Addr) (c : Nat) (xs : List α) : Own :=
 ⟨ownFp A, fun w => w.ownsRow 0 T e.sz (.slice A xs.length c) xs.length (xs.flatMap e.enc), fun w w' h hk => by
  refine ⟨hk.1, ?_⟩
  rcases hk.2 with h1 | ⟨g, cap, cur, hv, hb, hg, hr⟩
  ·exact .inl h1
  ·refine .inr ⟨g, cap, cur, hv, hb, ?_, hr⟩
   injection hv with hv _ _
   rw [h g ⟨_, hv, rfl⟩]
   exact hg⟩
theorem flat_len {α : Type} (e : Enc α) (xs : List α) : (xs.flatMap e.enc).length = xs.length * e.sz := by
 induction xs with
 | nil => simp
 | cons x xs ih => simp [List.flatMap_cons, e.len, ih, Nat.add_mul, Nat.add_comm]
theorem flat_at {α : Type} (e : Enc α) : ∀ (xs : List α) (j : Nat) (x : α), xs[j]? = some x → ∀ k v, (e.enc x)[k]? = some v → (xs.flatMap e.enc)[j * e.sz + k]? = some v
 | [], j, x, h, _, _, _ => by simp at h
 | y :: ys, 0, x, h, k, v, hv => by
  simp at h; subst h
  simp only [List.flatMap_cons, Nat.zero_mul, Nat.zero_add]
  rw [List.getElem?_append_left]
  ·exact hv
  ·exact (List.getElem?_eq_some_iff.1 hv).1
 | y :: ys, j + 1, x, h, k, v, hv => by
  simp only [List.flatMap_cons]
  have := flat_at e ys j x (by simpa using h) k v hv
  rw [List.getElem?_append_right (by rw [e.len, Nat.add_mul]; omega), e.len]
  rw [show (j + 1) * e.sz + k - e.sz = j * e.sz + k from by rw [Nat.add_mul]; omega]
  exact this
theorem add_add (g m k : Nat) : ((⟨g, 0, none⟩ : Addr).add m).add k = (⟨g, 0, none⟩ : Addr).add (m + k) := by
 unfold Addr.add
 by_cases hm : m = 0 <;> by_cases hk : k = 0 <;> simp [hm, hk]
theorem rowO.cap {α : Type} {T : TypeId} {e : Enc α} {A : Option Addr} {c : Nat} {xs : List α} {w : World} (h : (rowO T e A c xs).ok w) : xs.length ≤ c := by
 have h' : w.ownsRow 0 T e.sz (.slice A xs.length c) xs.length (xs.flatMap e.enc) := h
 rcases h'.2 with ⟨h1, h0⟩ | ⟨g, cap, cur, hv, hb, hg, hr, _⟩
 ·omega
 ·injection hv with _ _ hv; omega
theorem rowO.rd {α : Type} {T : TypeId} {e : Enc α} {A : Option Addr} {c : Nat} {xs : List α} {w : World} (h : (rowO T e A c xs).ok w) : (rowR e A c xs).ok w := by
 refine ⟨?_, rowO.cap h⟩
 intro j x hx
 have h' : w.ownsRow 0 T e.sz (.slice A xs.length c) xs.length (xs.flatMap e.enc) := h
 have hlt : j < xs.length := (List.getElem?_eq_some_iff.1 hx).1
 rcases h'.2 with ⟨_, h0⟩ | ⟨g, cap, cur, hv, hb, hg, hr⟩
 ·omega
 ·injection hv with hv h1 h2
  subst hv
  refine ⟨rfl, fun k v hkv => ?_⟩
  have := h'.cells (g := g) rfl (j * e.sz + k) v (flat_at e xs j x hx k v hkv)
  rw [← add_add] at this
  exact this
theorem rowO.fpR {α : Type} {T : TypeId} {e : Enc α} {A : Option Addr} {c : Nat} {xs : List α} {w : World} (h : (rowO T e A c xs).ok w) : ∀ g, (rowR e A c xs).fp g → (rowO T e A c xs).fp g := by
 rintro g ⟨hne, rfl⟩
 cases xs with
 | nil => exact absurd rfl hne
 | cons x xs => exact ⟨adr A, ((rowO.rd h).1 0 x rfl).1, rfl⟩
theorem RO.ofO {α : Type} {T : TypeId} {e : Enc α} {A : Option Addr} {c : Nat} {xs : List α} {S : Nat → Prop} {w : World} (h : RO S w (rowO T e A c xs)) : RO S w (rowR e A c xs) :=
 ⟨rowO.rd h.1, fun g hg => h.2 g (rowO.fpR h.1 g hg)⟩
theorem rowR.cell {α : Type} {e : Enc α} {A : Option Addr} {c : Nat} {xs : List α} {w : World} (h : (rowR e A c xs).ok w) {i : Int} (d : α) (h0 : 0 ≤ i) (h1 : i < (xs.length : Int)) (k : Nat) {v : Value} (hv : (e.enc (rdD xs i d))[k]? = some v) :
  w.cell? (((adr A).add (i.toNat * e.sz)).add k) = some v := (h.1 i.toNat _ (rdD_at h0 h1)).2 k v hv
theorem rowR.adr {α : Type} {e : Enc α} {A : Option Addr} {c : Nat} {xs : List α} {w : World} (h : (rowR e A c xs).ok w) {i : Int} (h0 : 0 ≤ i) (h1 : i < (xs.length : Int)) : 0 ≤ i ∧ i < ((xs.length : Nat) : Int) ∧ A = some (Gw.adr A) := by
 have hlt : i.toNat < xs.length := by omega
 exact ⟨h0, h1, (h.1 i.toNat _ (List.getElem?_eq_getElem hlt)).1⟩
theorem rowO.nil {α : Type} (T : TypeId) (e : Enc α) (w : World) : (rowO T e none 0 ([] : List α)).ok w := World.ownsRow_nil w 0 T e.sz
theorem rowO.ofBlk {α : Type} {T : TypeId} {e : Enc α} {g : Nat} {xs : List α} {cs : Array Value} {w : World} (h : w.heap[g]? = some (.cells cs T (0, 0))) (hc : cs.toList = xs.flatMap e.enc) (hm : xs.length ≤ maxLen) :
  (rowO T e (some ⟨g, 0, none⟩) xs.length xs).ok w := by
 refine ⟨flat_len e xs, .inr ⟨g, xs.length, cs, rfl, Nat.zero_le _, h, Nat.le_refl _, hm, ?_, ?_⟩⟩
 ·rw [← Array.length_toList, hc, flat_len]
 ·rw [hc, ← flat_len e xs, List.take_length]
theorem St.map1 {S : Nat → Prop} {w0 w : World} {R L : List Own} (h : St S w0 w R L) (j : Nat) (o' : Own) (ho : (at_ L j).ok w → o'.ok w) (hf : ∀ g, o'.fp g → (at_ L j).fp g) (ks : List Nat) (hd : ∀ k, k ∈ ks → k ≠ j) (hn : ks.Nodup) : St S w0 w R (o' :: sel L ks) := by
 have hh := h.sub ks hn
 refine ⟨h.keep, fun i => ⟨(h.ro i).1, fun g hg => ⟨((h.ro i).2 g hg).1, fun j' hj' => ?_⟩⟩, fun i => ?_, fun i i' hii g hi hi' => ?_⟩
 ·match j' with
  | 0 => exact ((h.ro i).2 g hg).2 j (hf g hj')
  | k + 1 => exact ((hh.ro i).2 g hg).2 k hj'
 ·match i with
  | 0 => exact ⟨ho (h.own j).1, fun g hg => (h.own j).2 g (hf g hg)⟩
  | i + 1 => exact hh.own i
 ·have cross : ∀ i, o'.fp g → (at_ (sel L ks) i).fp g → False := fun i hi hi' => by
   rw [at_sel] at hi'
   split at hi'
   ·rename_i k hk
    exact h.sep k j (hd k (List.mem_of_getElem? hk)) g hi' (hf g hi)
   ·exact hi'
  match i, i' with
  | 0, 0 => exact hii rfl
  | 0, i' + 1 => exact cross i' hi hi'
  | i + 1, 0 => exact cross i hi' hi
  | i + 1, i' + 1 => exact hh.sep i i' (fun e => hii (by rw [e])) g hi hi'
theorem St.freeze {S : Nat → Prop} {w0 w : World} {R L : List Own} (h : St S w0 w R L) (j : Nat) (o' : Own) (ho : (at_ L j).ok w → o'.ok w) (hf : ∀ g, o'.fp g → (at_ L j).fp g) (ks : List Nat) (hd : ∀ k, k ∈ ks → k ≠ j) (hn : ks.Nodup) : St S w0 w (o' :: R) (sel L ks) := by
 have hh := h.sub ks hn
 refine ⟨h.keep, fun i => ?_, hh.own, hh.sep⟩
 match i with
 | 0 =>
  refine ⟨ho (h.own j).1, fun g hg => ⟨((h.own j).2 g (hf g hg)).2, fun i hi => ?_⟩⟩
  rw [at_sel] at hi
  split at hi
  ·rename_i k hk
   exact h.sep k j (hd k (List.mem_of_getElem? hk)) g hi (hf g hg)
  ·exact hi
 | i + 1 => exact hh.ro i
theorem St.nilR {α : Type} {S : Nat → Prop} {w0 w : World} {R L : List Own} (h : St S w0 w R L) (e : Enc α) : St S w0 w (rowR e none 0 ([] : List α) :: R) L := by
 refine ⟨h.keep, fun i => ?_, h.own, h.sep⟩
 match i with
 | 0 => exact ⟨⟨fun j x h => by simp at h, Nat.le_refl _⟩, fun g h => absurd rfl h.1⟩
 | i + 1 => exact h.ro i
def fpL (L : List Own) : Nat → Prop := fun g => ∃ i, (at_ L i).fp g
structure IoOK (w : World) (L : List Own) : Prop where
 own : ∀ i, (at_ L i).ok w ∧ ∀ g, (at_ L i).fp g → g < w.heap.size
 sep : ∀ i j, i ≠ j → ∀ g, (at_ L i).fp g → ¬ (at_ L j).fp g
theorem St.initIO {w : World} {R L : List Own} (h : ∀ i, RO (fpL L) w (at_ R i)) (hL : IoOK w L) : St (fpL L) w w R L :=
 ⟨Keeps.refl _ _, fun i => ⟨(h i).1, fun g hg => ⟨((h i).2 g hg).1, fun j hj => ((h i).2 g hg).2 ⟨j, hj⟩⟩⟩, fun i => ⟨(hL.own i).1, fun g hg => ⟨.inl ⟨i, hg⟩, (hL.own i).2 g hg⟩⟩, hL.sep⟩
theorem St.io {S : Nat → Prop} {w0 w : World} {R L : List Own} (h : St S w0 w R L) (is : List Nat) (hn : is.Nodup) : IoOK w (sel L is) := by
 have hh := h.sub is hn
 exact ⟨fun i => ⟨(hh.own i).1, fun g hg => ((hh.own i).2 g hg).2⟩, hh.sep⟩
theorem fpL_sel {L : List Own} {is : List Nat} (g : Nat) (h : fpL (sel L is) g) : ∃ i, i ∈ is ∧ (at_ L i).fp g := by
 obtain ⟨i, hi⟩ := h
 rw [at_sel] at hi
 split at hi
 ·rename_i k hk; exact ⟨k, List.mem_of_getElem? hk, hi⟩
 ·exact hi.elim
theorem St.rdT {S : Nat → Prop} {w0 w : World} {R L : List Own} (h : St S w0 w R L) (is : List Nat) (i : Nat) : RO (fpL (sel L is)) w (at_ R i) :=
 ⟨(h.ro i).1, fun g hg => ⟨((h.ro i).2 g hg).1, fun ht => by
  obtain ⟨j, _, hj⟩ := fpL_sel g ht
  exact ((h.ro i).2 g hg).2 j hj⟩⟩
theorem St.owT {S : Nat → Prop} {w0 w : World} {R L : List Own} (h : St S w0 w R L) (is : List Nat) (i : Nat) (hi : i ∉ is) : RO (fpL (sel L is)) w (at_ L i) :=
 ⟨(h.own i).1, fun g hg => ⟨((h.own i).2 g hg).2, fun ht => by
  obtain ⟨j, hm, hj⟩ := fpL_sel g ht
  exact h.sep i j (fun e => hi (e ▸ hm)) g hg hj⟩⟩
theorem St.subR {S : Nat → Prop} {w0 w : World} {R L : List Own} (h : St S w0 w R L) (ks : List Nat) : St S w0 w (sel R ks) L := by
 refine ⟨h.keep, fun i => ?_, h.own, h.sep⟩
 rw [at_sel]
 split
 ·exact h.ro _
 ·exact ⟨trivial, fun _ h => h.elim⟩
theorem WL.reE {P : Program} {ops : Array Oper} {lst : List (Nat × Oper)} {Q : Exit → Act → World → Prop} {F : FF} {N : Nat} {j : Nat} {E : Env} {w : World} (ks : List Nat) (E1 E2 : Env) (h1 : pick E ks = some E1) (h2 : E2 = E1) (k : WL P ops lst Q F j N E2 w) : WL P ops lst Q F j N E w := by
 subst h2
 exact fun fb a ha => k _ a (ha.picked h1)
theorem St.nilrow {α : Type} {S : Nat → Prop} {w0 w : World} {R L : List Own} (h : St S w0 w R L) (T : TypeId) (e : Enc α) : St S w0 w R (rowO T e none 0 ([] : List α) :: L) := by
 refine ⟨h.keep, fun i => ⟨(h.ro i).1, fun g hg => ⟨((h.ro i).2 g hg).1, fun j' hj' => ?_⟩⟩, fun i => ?_, fun i i' hii g hi hi' => ?_⟩
 ·match j' with
  | 0 => obtain ⟨_, h, _⟩ := hj'; cases h
  | k + 1 => exact ((h.ro i).2 g hg).2 k hj'
 ·match i with
  | 0 => exact ⟨rowO.nil T e w, fun g hg => by obtain ⟨_, h, _⟩ := hg; cases h⟩
  | i + 1 => exact h.own i
 ·match i, i' with
  | 0, _ => obtain ⟨_, h, _⟩ := hi; cases h
  | i + 1, 0 => obtain ⟨_, h, _⟩ := hi'; cases h
  | i + 1, i' + 1 => exact h.sep i i' (fun e => hii (by rw [e])) g hi hi'

/-! ### 10. append -/
def apCall (o : Oper) : Option (Nat × Operand × Operand × TypeId × TypeId) :=
 match o.op, o.dst with
 | .call cl, some d => match cl.callee, cl.args.toList, cl.argTypes.toList with
  | .builtin .append, [s, x], [t, u] => some (d, s, x, t, u)
  | _, _, _ => none
 | _, _ => none
theorem apCall_eq {o : Oper} {d : Nat} {s x : Operand} {t u : TypeId} (h : apCall o = some (d, s, x, t, u)) : o.dst = some d ∧ o.op = .call { callee := .builtin .append, args := #[s, x], argTypes := #[t, u] } := by
 unfold apCall at h
 split at h
 ·rename_i cl d' hop hd
  split at h
  ·rename_i s' x' t' u' h1 h2 h3
   injection h with h; injection h with e1 h; injection h with e2 h; injection h with e3 h; injection h with e4 e5
   subst e1 e2 e3 e4 e5
   refine ⟨hd, ?_⟩
   obtain ⟨ce, ags, ts⟩ := cl
   cases ags; cases ts
   simp only at h1 h2 h3
   subst h1 h2 h3
   exact hop
  ·cases h
 ·cases h
def evAi (P : Program) (ops : Array Oper) (lst : List (Nat × Oper)) (fl : List Nat) (N : Nat) (fb : Operand → Value) (i : Nat) (E : Env) : Option (Nat × TypeId × Value × Value) :=
 match lst.drop i with
 | (k, o) :: _ => bif wantE ops E o && !memN k fl then (match apCall o with
  | some (d, s, x, t, u) => bif Nat.beq t u && Nat.blt d N then some (d, t, rho E fb s, rho E fb x) else none
  | none => none) else none
 | [] => none
theorem run_append_none {P : Program} {w : World} {t ty T : TypeId} {i : TypeInfo} (ht : P.underlying t = some (.slice T)) (hi : P.info? T = some i) (hz : ∀ k, P.underlying t ≠ some (.int k)) (A A2 : Option Addr) (n c c2 : Nat) (hnc : n ≤ c) :
  (Builtin.append_ #[t, t] ty #[.slice A n c, .slice A2 0 c2]).run P w = .ok (.slice A n c) w := by
 cases A <;> cases A2 <;> simp [Builtin.append_, run_underlying ht, Go.sizeOf, Go.typeInfo, hi, Builtin.lenOf, Builtin.firstCells, loadCells, loadCellsFrom, hnc, storeCells]
theorem own_form {w : World} {base n : Nat} {e : TypeId} {size : Nat} {v : Value} {xs : List Value} (h : w.ownsRow base e size v n xs) : ∃ A c, v = .slice A n c := by
 rcases h.2 with ⟨rfl, rfl⟩ | ⟨g, cap, cur, rfl, _⟩
 ·exact ⟨none, 0, rfl⟩
 ·exact ⟨_, cap, rfl⟩
theorem append_run {α : Type} {P : Program} {e : Enc α} {T tS ty : TypeId} {z : Value} {bytes : Nat} {w : World} {A A2 : Option Addr} {c c2 : Nat} {xs ys : List α}
  (ht : P.underlying tS = some (.slice T)) (hinf : (P.info? T).map (fun i => (i.zero, i.size, i.bytes)) = some (some z, e.sz, bytes)) (hz : z.cells.size = e.sz) (hpos : 0 < e.sz)
  (ho : (rowO T e A c xs).ok w) (hs : (rowR e A2 c2 ys).ok w) (hl1 : xs.length + ys.length ≤ maxLen) (hl2 : (xs.length + ys.length) * bytes ≤ 140737488355328) :
  ∃ A' c' w', (Builtin.append_ #[tS, tS] ty #[.slice A xs.length c, .slice A2 ys.length c2]).run P w = .ok (.slice A' (xs ++ ys).length c') w' ∧ (rowO T e A' c' (xs ++ ys)).ok w' ∧ Keeps (ownFp A) w w' ∧ (∀ g, ownFp A' g → (ownFp A g ∨ w.heap.size ≤ g) ∧ g < w'.heap.size) := by
 obtain ⟨i, hi, hz0, hz1, hz2⟩ := info_parts hinf
 cases ys with
 | nil =>
  refine ⟨A, c, w, ?_, ?_, Keeps.refl _ _, fun g hg => ⟨.inl hg, ?_⟩⟩
  ·simp only [List.append_nil, List.length_nil]
   exact run_append_none ht hi (by rw [ht]; simp) A A2 xs.length c c2 (rowO.cap ho)
  ·simpa using ho
  ·obtain ⟨ad, rfl, rfl⟩ := hg
   have ho' : w.ownsRow 0 T e.sz (.slice (some ad) xs.length c) xs.length (xs.flatMap e.enc) := ho
   exact (ho'.lt ad.block rfl).2
 | cons y ys =>
  have hA2 := (hs.1 0 y rfl).1
  obtain ⟨v', w', hr, hown, hg, _, hb⟩ := run_append_own_at (P := P) w 0 tS ty T i z e.sz bytes ht hi hz0 hz1 hz2 hz hpos (.slice A xs.length c) xs.length (xs.flatMap e.enc) ho (adr A2) (y :: ys).length c2 ((y :: ys).flatMap e.enc) (flat_len e _)
   (fun j u hu => by
    have hlt : j < ((y :: ys).flatMap e.enc).length := (List.getElem?_eq_some_iff.1 hu).1
    rw [flat_len] at hlt
    have hq : j / e.sz < (y :: ys).length := Nat.div_lt_of_lt_mul (by rw [Nat.mul_comm]; exact hlt)
    have hk : j % e.sz < e.sz := Nat.mod_lt _ hpos
    have hx : (y :: ys)[j / e.sz]? = some (y :: ys)[j / e.sz] := List.getElem?_eq_getElem hq
    have hkl : j % e.sz < (e.enc (y :: ys)[j / e.sz]).length := by rw [e.len]; exact hk
    have hv := List.getElem?_eq_getElem hkl
    have h1 := flat_at e _ _ _ hx _ _ hv
    rw [Nat.mul_comm, Nat.div_add_mod] at h1
    have h2 := (hs.1 _ _ hx).2 _ _ hv
    rw [show ((adr A2).add (j / e.sz * e.sz)).add (j % e.sz) = (adr A2).add j from by
     have e1 : j / e.sz * e.sz + j % e.sz = j := by rw [Nat.mul_comm]; exact Nat.div_add_mod ..
     conv => rhs; rw [← e1]
     unfold Addr.add
     by_cases h0 : j / e.sz * e.sz = 0 <;> by_cases h00 : j % e.sz = 0 <;> simp [h0, h00, Nat.add_assoc]] at h2
    rw [h1] at hu
    injection hu with hu
    rw [← hu]; exact h2)
   (fun u hu => by
    obtain ⟨x, _, hx⟩ := List.mem_flatMap.1 hu
    exact e.one x u hx) hl1 hl2 (Nat.zero_le _)
  obtain ⟨A', c', rfl⟩ := own_form hown
  refine ⟨A', c', w', ?_, ?_, ⟨hg.os, hg.tape, hg.output, hg.size, fun k hk hn => hg.block k hk ?_, fun _ => run_mono _ _ _ _ hr⟩, fun g hgA => ?_⟩
  ·rw [← hA2] at hr; rw [hr, List.length_append]
  ·show w'.ownsRow 0 T e.sz (.slice A' (xs ++ (y :: ys)).length c') (xs ++ (y :: ys)).length ((xs ++ (y :: ys)).flatMap e.enc)
   rw [List.length_append, List.flatMap_append]
   exact hown
  ·intro he
   apply hn
   cases A with
   | none => simp [Value.ownBlock] at he
   | some ad => simp [Value.ownBlock] at he; exact ⟨ad, rfl, he⟩
  ·obtain ⟨ad, rfl, rfl⟩ := hgA
   refine ⟨?_, (hown.lt ad.block rfl).2⟩
   rcases hb with hb | hb
   ·left
    cases A with
    | none => simp [Value.ownBlock] at hb
    | some a0 => simp [Value.ownBlock] at hb; exact ⟨a0, rfl, hb⟩
   ·right; simp [Value.ownBlock] at hb; omega
theorem WL.append {α : Type} {P : Program} {ops : Array Oper} {lst : List (Nat × Oper)} {Q : Exit → Act → World → Prop} {F : FF} {N : Nat} {i : Nat} {E : Env} {S : Nat → Prop} {w0 w : World} {R L : List Own} (hS : St S w0 w R L)
  (j : Nat) {e : Enc α} {T tS : TypeId} {z : Value} {bytes : Nat} {A A2 : Option Addr} {c c2 : Nat} {xs ys : List α} {d : Nat} (hj : at_ L j = rowO T e A c xs)
  (h : ∀ fb, evAi P ops lst F.2.1 N fb i E = some (d, tS, .slice A xs.length c, .slice A2 ys.length c2)) (hs : (rowR e A2 c2 ys).ok w)
  (ht : P.underlying tS = some (.slice T)) (hinf : (P.info? T).map (fun i => (i.zero, i.size, i.bytes)) = some (some z, e.sz, bytes)) (hz : z.cells.size = e.sz) (hpos : 0 < e.sz)
  (hl : xs.length + ys.length ≤ 100000000000) (hby : bytes ≤ 1000) (ks : List Nat) (hd : ∀ k, k ∈ ks → k ∉ [j]) (hn : ks.Nodup)
  (k : ∀ A' c' w1, St S w0 w1 R (rowO T e A' c' (xs ++ ys) :: sel L ks) → CellsA F lst i w1 ∧ WL P ops lst Q F (i + 1) N ((d, .slice A' (xs ++ ys).length c') :: E) w1) : WL P ops lst Q F i N E w := by
 intro fb a ha
 have h := h fb
 unfold evAi at h
 split at h
 ·rename_i k_ o r ho
  cases hw2 : (wantE ops E o && !memN k_ F.2.1)
  ·rw [hw2] at h; cases h
  ·rw [hw2] at h
   simp only [cond_true] at h
   simp only [Bool.and_eq_true, Bool.not_eq_true'] at hw2
   obtain ⟨hw, hfl⟩ := hw2
   split at h
   ·rename_i d' s x t u hap
    obtain ⟨hdst, hop⟩ := apCall_eq hap
    cases hb : (Nat.beq t u && Nat.blt d' N)
    ·rw [hb] at h; cases h
    ·rw [hb] at h
     simp only [cond_true] at h
     injection h with h; injection h with h1 h2; injection h2 with h2 h3; injection h3 with h3 h4
     subst h1 h2
     rw [Bool.and_eq_true] at hb
     have hu := Nat.eq_of_beq_eq_true hb.1
     subst hu
     have hown : (rowO T e A c xs).ok w := by have := (hS.own j).1; rw [hj] at this; exact this
     obtain ⟨A', c', w', hr, ho', hk', hf'⟩ := append_run (P := P) (ty := o.type) (c2 := c2) ht hinf hz hpos hown hs (by unfold maxLen; omega) (Nat.le_trans (Nat.mul_le_mul hl hby) (by decide))
     rw [ho]
     unfold wpL
     rw [if_pos (wantE_of ha hw)]
     rw [if_neg (by rw [hfl]; simp)]; left
     unfold Oper.wpA execOp
     rw [ha.ev]
     simp only [hop, resolve, invoke, builtin, Sem.run_bind, Sem.run_pure, Result.andThen_ok, List.map_toArray, List.map_cons, List.map_nil, h3, h4, hr, upA]
     have hS' := hS.call (St.one hk' ho' hf') [j] ks (fun g hg => ⟨j, by simp, by rw [hj]; exact hg⟩) hd hn
     have := (k A' c' w' hS').2 fb (a.put o.dst _) (by rw [hdst]; exact ha.put (blt_lt hb.2) _)
     rw [drop_cons ho] at this
     exact ⟨.inr ((k A' c' w' hS').1.at ho), this⟩
   ·cases h
 ·cases h

/-! ### 11. where ways meet; loops -/
theorem WL.splitB {P : Program} {ops : Array Oper} {lst : List (Nat × Oper)} {Q : Exit → Act → World → Prop} {F : FF} {N : Nat} {i : Nat} {E : Env} {w : World} (d : Nat) (b : Bool) (h : lk E d = some (.bool b))
  (ht : b = true → WL P ops lst Q F i N ((d, .bool true) :: E) w) (hf : b = false → WL P ops lst Q F i N ((d, .bool false) :: E) w) : WL P ops lst Q F i N E w := by
 have key : ∀ fb, rho ((d, .bool b) :: E) fb = rho E fb := fun fb => funext fun x => by
  cases x with
  | tmp t =>
   simp only [rho, lk]
   cases hb : Nat.beq d t
   ·rfl
   ·have := Nat.eq_of_beq_eq_true hb; subst this; simp [h]
  | _ => rfl
 intro fb a ha
 cases b
 ·exact hf rfl fb a ⟨ha.size, ha.le, by rw [lk_same h]; exact ha.dfr, by rw [key]; exact ha.ev⟩
 ·exact ht rfl fb a ⟨ha.size, ha.le, by rw [lk_same h]; exact ha.dfr, by rw [key]; exact ha.ev⟩
theorem WL.cut {T : Type} {P : Program} {ops : Array Oper} {lst : List (Nat × Oper)} {Q : Exit → Act → World → Prop} {F : FF} {N : Nat} {i : Nat} {E : Env} {w : World} (j : Nat) (EE : T → Env) (I : T → World → Prop)
  (K : ∀ t w1, I t w1 → WL P ops lst Q F j N (EE t) w1) (k : (∀ t w1, I t w1 → WL P ops lst Q F j N (EE t) w1) → WL P ops lst Q F i N E w) : WL P ops lst Q F i N E w := k K
theorem WL.to {T : Type} {P : Program} {ops : Array Oper} {lst : List (Nat × Oper)} {Q : Exit → Act → World → Prop} {F : FF} {N : Nat} {j : Nat} {E : Env} {w : World} {EE : T → Env} {I : T → World → Prop}
  (K : ∀ t w1, I t w1 → WL P ops lst Q F j N (EE t) w1) (t : T) (ks : List Nat) (h : pick E ks = some (EE t)) (hI : I t w) : WL P ops lst Q F j N E w :=
 fun fb a ha => K t w hI _ a (ha.picked h)
theorem WL.cutV {T : Type} {P : Program} {ops : Array Oper} {lst : List (Nat × Oper)} {Q : Exit → Act → World → Prop} {F : FF} {N : Nat} {i : Nat} {E : Env} {w : World} (j : Nat) (EE : T → Env) (I : T → Prop)
  (k : (∀ t, I t → WL P ops lst Q F j N (EE t) w) → WL P ops lst Q F i N E w) (K : ∀ t, I t → WL P ops lst Q F j N (EE t) w) : WL P ops lst Q F i N E w := k K
theorem WL.toV {T : Type} {P : Program} {ops : Array Oper} {lst : List (Nat × Oper)} {Q : Exit → Act → World → Prop} {F : FF} {N : Nat} {j : Nat} {E : Env} {w : World} {EE : T → Env} {I : T → Prop}
  (K : ∀ t, I t → WL P ops lst Q F j N (EE t) w) (t : T) (ks : List Nat) (h : pick E ks = some (EE t)) (hI : I t) : WL P ops lst Q F j N E w :=
 fun fb a ha => K t hI _ a (ha.picked h)
theorem WL.cutW {T : Type} {P : Program} {ops : Array Oper} {lst : List (Nat × Oper)} {Q : Exit → Act → World → Prop} {F : FF} {N : Nat} {i : Nat} {E : Env} {w : World} (j : Nat) (EE : T → Env) (I : T → World → Prop)
  (k : (∀ t w1, I t w1 → WL P ops lst Q F j N (EE t) w1) → WL P ops lst Q F i N E w) (K : ∀ t w1, I t w1 → WL P ops lst Q F j N (EE t) w1) : WL P ops lst Q F i N E w := k K
theorem bind_some {α β : Type} {x : Option α} {f : α → Option β} {r : β} (h : x.bind f = some r) : ∃ t, x = some t ∧ f t = some r := by
 cases x with
 | none => cases h
 | some t => exact ⟨t, rfl, h⟩
theorem as_some {β : Type} {c : Prop} [Decidable c] {a : Option β} {r : β} (h : (if c then a else none) = some r) : c ∧ a = some r := by
 by_cases hc : c
 ·rw [if_pos hc] at h; exact ⟨hc, h⟩
 ·rw [if_neg hc] at h; cases h
theorem br_some {β : Type} {b : Bool} {x y : Option β} {r : β} (h : (if b = true then x else y) = some r) : (b = true ∧ x = some r) ∨ (b = false ∧ y = some r) := by
 cases b
 ·exact .inr ⟨rfl, by simpa using h⟩
 ·exact .inl ⟨rfl, by simpa using h⟩
def sumb {α β γ : Type} (x : Sum α β) (f : α → Option γ) (g : β → Option γ) : Option γ := match x with
 | .inl a => f a
 | .inr b => g b
theorem sum_inr {α β γ : Type} {y : β} {f : α → Option γ} {g : β → Option γ} {r : γ} (h : sumb (.inr y) f g = some r) : g y = some r := h
theorem RO.nilR {α : Type} {S : Nat → Prop} {w : World} (e : Enc α) (A : Option Addr) (c : Nat) : RO S w (rowR e A c []) := ⟨⟨fun j x h => by simp at h, Nat.zero_le _⟩, fun g h => absurd rfl h.1⟩
theorem rowR_nil {α : Type} {w : World} (e : Enc α) (A : Option Addr) (c : Nat) : (rowR e A c []).ok w := ⟨fun j x h => by simp at h, Nat.zero_le _⟩
def cut {α : Type} (xs : List α) (l h : Int) : List α := (xs.drop l.toNat).take (h.toNat - l.toNat)
theorem cut_length {α : Type} {xs : List α} {l h : Int} (h0 : 0 ≤ l) (h1 : l ≤ h) (h2 : h ≤ (xs.length : Int)) : (cut xs l h).length = h.toNat - l.toNat := by
 unfold cut; rw [List.length_take, List.length_drop]; omega
theorem cut1 {l h : Int} (h0 : 0 ≤ l) (h1 : l ≤ h) : 0 ≤ l ∧ l < ((h.toNat + 1 : Nat) : Int) ∧ (some ⟨0, 0, none⟩ : Option Addr) = some (adr (some ⟨0, 0, none⟩)) := ⟨h0, by omega, rfl⟩
theorem cut2 {α : Type} {c : Nat} {xs : List α} {l h : Int} (h0 : 0 ≤ l) (h1 : l ≤ h) (h2 : h ≤ (xs.length : Int)) (hr : xs.length ≤ c) : 0 ≤ h ∧ h < ((c + 1 : Nat) : Int) ∧ (some ⟨0, 0, none⟩ : Option Addr) = some (adr (some ⟨0, 0, none⟩)) := ⟨by omega, by omega, rfl⟩
theorem adr_add (a : Addr) (m n : Nat) : (a.add m).add n = a.add (m + n) := by
 unfold Addr.add
 by_cases hm : m = 0 <;> by_cases hn : n = 0 <;> simp [hm, hn, Nat.add_assoc]
theorem cutR {α : Type} {e : Enc α} {A : Option Addr} {c : Nat} {xs : List α} {S : Nat → Prop} {w : World} (h : RO S w (rowR e A c xs)) {l r : Int} (h0 : 0 ≤ l) (h1 : l ≤ r) (h2 : r ≤ (xs.length : Int)) : RO S w (rowR e (subA A c l.toNat e.sz) (c - l.toNat) (Gw.cut xs l r)) := by
 have hc := h.1.2
 have hl := cut_length h0 h1 h2
 by_cases he : Gw.cut xs l r = []
 ·rw [he]; exact RO.nilR e _ _
 have hlt : l.toNat < r.toNat := by
  have : (Gw.cut xs l r).length ≠ 0 := fun h => he (List.eq_nil_of_length_eq_zero h)
  omega
 have hne : c ≠ l.toNat := by omega
 have hx : xs ≠ [] := fun h => by subst h; simp at h2; omega
 obtain ⟨x0, hx0⟩ : ∃ x, xs[0]? = some x := by
  cases xs with
  | nil => exact absurd rfl hx
  | cons x _ => exact ⟨x, rfl⟩
 have hA := (h.1.1 0 x0 hx0).1
 have hs : subA A c l.toNat e.sz = some ((adr A).add (l.toNat * e.sz)) := by
  unfold subA; rw [if_neg hne]; rw [hA]; rfl
 have ha : adr (subA A c l.toNat e.sz) = (adr A).add (l.toNat * e.sz) := by rw [hs]; rfl
 refine ⟨⟨fun j x hj => ⟨by rw [ha]; exact hs, fun k v hv => ?_⟩, by rw [hl]; omega⟩, fun g hg => h.2 g ⟨hx, ?_⟩⟩
 ·rw [ha]
  unfold Gw.cut at hj
  have hj2 : xs[l.toNat + j]? = some x := by
   rw [List.getElem?_take] at hj
   split at hj
   ·rw [List.getElem?_drop] at hj; exact hj
   ·cases hj
  have := (h.1.1 _ _ hj2).2 k v hv
  rw [adr_add (adr A), ← Nat.add_mul]
  exact this
 ·rw [hg.2, ha, adr_add_block]
theorem St.cutR {α : Type} {S : Nat → Prop} {w0 w : World} {R L : List Own} (h : St S w0 w R L) {e : Enc α} {A : Option Addr} {c : Nat} {xs : List α} (i : Nat) (hi : at_ R i = rowR e A c xs) {l r : Int} (h0 : 0 ≤ l) (h1 : l ≤ r) (h2 : r ≤ (xs.length : Int)) : St S w0 w (rowR e (subA A c l.toNat e.sz) (c - l.toNat) (Gw.cut xs l r) :: R) L := by
 refine ⟨h.keep, fun j => ?_, h.own, h.sep⟩
 match j with
 | 0 =>
  have hr := h.ro i
  rw [hi] at hr
  have hh : RO (fun g => w.heap.size ≤ g ∨ ∃ j, (at_ L j).fp g) w (rowR e A c xs) := ⟨hr.1, fun g hg => ⟨(hr.2 g hg).1, fun hh => hh.elim (fun hh => by have := (hr.2 g hg).1; omega) fun ⟨j, hj⟩ => (hr.2 g hg).2 j hj⟩⟩
  have hk := Gw.cutR hh h0 h1 h2
  exact ⟨hk.1, fun g hg => ⟨(hk.2 g hg).1, fun j hj => (hk.2 g hg).2 (.inr ⟨j, hj⟩)⟩⟩
 | j + 1 => exact h.ro j
theorem blk_cell {w : World} {g : Nat} {cs : Array Value} {T : TypeId} {fz : Nat × Nat} (h : (blk g (.cells cs T fz)).ok w) (k : Nat) {v : Value} (hk : cs[k]? = some v) : w.cell? ⟨g, k, none⟩ = some v := by
 have this : w.heap[g]? = some (.cells cs T fz) := h
 simp [World.cell?, this, hk]
theorem WL.setB {P : Program} {ops : Array Oper} {lst : List (Nat × Oper)} {Q : Exit → Act → World → Prop} {F : FF} {N : Nat} {i : Nat} {E : Env} {w : World} (d : Nat) {b u : Bool} (hb : b = u) (h : lk E d = some (.bool b))
  (k : WL P ops lst Q F i N ((d, .bool u) :: E) w) : WL P ops lst Q F i N E w := by
 subst hb
 refine WL.splitB d b h (fun e => ?_) (fun e => ?_) <;> (subst e; exact k)
theorem WL.setI {P : Program} {ops : Array Oper} {lst : List (Nat × Oper)} {Q : Exit → Act → World → Prop} {F : FF} {N : Nat} {i : Nat} {E : Env} {w : World} (d : Nat) {kd : IntKind} {b u : Int} (hb : b = u) (h : lk E d = some (.int kd b))
  (k : WL P ops lst Q F i N ((d, .int kd u) :: E) w) : WL P ops lst Q F i N E w := by
 subst hb
 have key : ∀ fb, rho ((d, .int kd b) :: E) fb = rho E fb := fun fb => funext fun x => by
  cases x with
  | tmp t =>
   simp only [rho, lk]
   cases hb : Nat.beq d t
   ·rfl
   ·have := Nat.eq_of_beq_eq_true hb; subst this; simp [h]
  | _ => rfl
 intro fb a ha
 exact k fb a ⟨ha.size, ha.le, by rw [lk_same h]; exact ha.dfr, by rw [key]; exact ha.ev⟩
theorem WC.cutN {T : Type} {P : Program} {x : Code} {Q : Exit → Act → World → Prop} {N : Nat} {E : Env} {w : World} (EE : T → Env) (I : T → World → Prop)
  (k : (∀ t w1, I t w1 → WX Q .normal N (EE t) w1) → WC P x Q N E w) (K : ∀ t w1, I t w1 → WX Q .normal N (EE t) w1) : WC P x Q N E w := k K
theorem WC.condT2 {P : Program} {c : Operand} {x y : Code} {Q : Exit → Act → World → Prop} {N : Nat} {E : Env} {w : World} {b : Bool} (hc : ∀ fb, rho E fb c = .bool b) (hb : b = true) (h : WC P x Q N E w) : WC P (.cond c x y) Q N E w :=
 WC.cond b hc (fun _ => h) (fun e => by rw [hb] at e; cases e)
theorem WC.condF2 {P : Program} {c : Operand} {x y : Code} {Q : Exit → Act → World → Prop} {N : Nat} {E : Env} {w : World} {b : Bool} (hc : ∀ fb, rho E fb c = .bool b) (hb : b = false) (h : WC P y Q N E w) : WC P (.cond c x y) Q N E w :=
 WC.cond b hc (fun e => by rw [hb] at e; cases e) (fun _ => h)
theorem WC.condT {P : Program} {c : Operand} {x y : Code} {Q : Exit → Act → World → Prop} {N : Nat} {E : Env} {w : World} (hc : ∀ fb, rho E fb c = .bool true) (h : WC P x Q N E w) : WC P (.cond c x y) Q N E w :=
 WC.cond true hc (fun _ => h) (fun e => by cases e)
theorem WC.condF {P : Program} {c : Operand} {x y : Code} {Q : Exit → Act → World → Prop} {N : Nat} {E : Env} {w : World} (hc : ∀ fb, rho E fb c = .bool false) (h : WC P y Q N E w) : WC P (.cond c x y) Q N E w :=
 WC.cond false hc (fun e => by cases e) (fun _ => h)
theorem WX.to {T : Type} {Q : Exit → Act → World → Prop} {ex : Exit} {N : Nat} {E : Env} {w : World} {EE : T → Env} {I : T → World → Prop}
  (K : ∀ t w1, I t w1 → WX Q ex N (EE t) w1) (t : T) (ks : List Nat) (h : pick E ks = some (EE t)) (hI : I t w) : WX Q ex N E w :=
 fun fb a ha => K t w hI _ a (ha.picked h)
def Again {T : Type} (N : Nat) (EE : T → Env) (I : Nat → T → World → Prop) (n : Nat) (a : Act) (w : World) : Prop := ∃ m, m < n ∧ ∃ t, I m t w ∧ ∃ fb, Has N (EE t) fb a
theorem WC.loop {T : Type} {P : Program} {c : Code} {Q : Exit → Act → World → Prop} {N : Nat} {E : Env} {w : World} (EE : T → Env) (I : Nat → T → World → Prop) (n : Nat) (t : T) (ks : List Nat) (h : pick E ks = some (EE t)) (h0 : I n t w)
  (round : ∀ n t w1, I n t w1 → WC P c (Exit.then (Again N EE I n) Q) N (EE t) w1) : WC P (.loop c) Q N E w := by
 intro fb a ha
 refine wpA_loop_ind (fun n a w => ∃ t, I n t w ∧ ∃ fb, Has N (EE t) fb a) n ⟨t, h0, _, ha.picked h⟩ ?_
 rintro n a w ⟨t, hI, fb, ha⟩
 exact round n t w hI fb a ha
theorem WX.again {T : Type} {Q : Exit → Act → World → Prop} {N : Nat} {E : Env} {w : World} {EE : T → Env} {I : Nat → T → World → Prop} {n : Nat} (m : Nat) (hm : m < n) (t : T) (ks : List Nat) (h : pick E ks = some (EE t)) (hI : I m t w) :
  WX (Exit.then (Again N EE I n) Q) .normal N E w :=
 fun fb a ha => ⟨m, hm, t, hI, _, ha.picked h⟩
theorem St.keepN {S : Nat → Prop} {w0 w w' : World} {R L : List Own} (h : St S w0 w R L) (hk : Keeps NoS w w') : St S w0 w' R L := by
 refine ⟨h.keep.trans hk (fun g hg => hg.elim), fun i => ⟨(at_ R i).loc w w' (fun g hg => hk.block g ((h.ro i).2 g hg).1 id) (h.ro i).1, fun g hg => ⟨Nat.lt_of_lt_of_le ((h.ro i).2 g hg).1 hk.size, ((h.ro i).2 g hg).2⟩⟩, fun i => ⟨(at_ L i).loc w w' (fun g hg => hk.block g ((h.own i).2 g hg).2 id) (h.own i).1, fun g hg => ⟨((h.own i).2 g hg).1, Nat.lt_of_lt_of_le ((h.own i).2 g hg).2 hk.size⟩⟩, h.sep⟩
theorem St.drew {S : Nat → Prop} {w0 w : World} {R L : List Own} (h : St S w0 w R L) : St S w0 w.drew R L := h.keepN ⟨rfl, rfl, rfl, Nat.le_refl _, fun _ _ _ => rfl, fun _ => Nat.le_succ _⟩
def argE : Nat → List Value → Env
 | _, [] => []
 | i, v :: r => (i, v) :: argE (i + 1) r
theorem argE_at : ∀ (l : List Value) (i t : Nat) (v : Value), lk (argE i l) t = some v → i ≤ t ∧ l[t - i]? = some v
 | [], i, t, v, h => by simp [argE, lk] at h
 | u :: r, i, t, v, h => by
  simp only [argE, lk] at h
  cases hb : Nat.beq i t
  ·rw [hb] at h
   have := argE_at r (i + 1) t v h
   refine ⟨by omega, ?_⟩
   rw [show t - i = (t - (i + 1)) + 1 from by omega]
   simpa using this.2
  ·rw [hb] at h
   have := Nat.eq_of_beq_eq_true hb; subst this
   simp at h; subst h
   exact ⟨Nat.le_refl _, by simp⟩
theorem enter {P : Program} {f : FuncId} {fn : Func} {c : Code} {l : List Value} {w : World} {R : Value → World → Prop} (N : Nat) (hf : P.funcs[f]? = some fn) (hb : fn.body = some c) (hn : fn.ntmps = N) (hs : (Nat.ble l.length N && Nat.ble N MK) = true)
  (h : WC P c (bodyPostA P fn (fun e w' => ∃ v, e = .returned v ∧ R v w')) N (argE 0 l) w) : CallsR P f l.toArray w R := by
 refine calls_enter N (argE 0 l) hf hb hn (by rw [Bool.and_eq_true] at hs; simpa using Nat.le_of_ble_eq_true hs.1) (by rw [Bool.and_eq_true] at hs; exact Nat.le_of_ble_eq_true hs.2) (fun t v hv => ?_) h
 have := argE_at l 0 t v hv
 simpa using this.2
end Gw
