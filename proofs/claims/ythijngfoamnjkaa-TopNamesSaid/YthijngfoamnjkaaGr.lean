/- For every input the law returns true, and each argument reads afterwards as it read before. -/
import Derived.Test.YthijngfoamnjkaaGx4
import Derived.Test.YthijngfoamnjkaaGq
import Derived.Test.YthijngfoamnjkaaRows
import Derived.WalkKit
import Derived.ProofKit
import Derived.OpenShut
import Derived.ShutString
import Derived.ChangeOld
import Derived.Below
import Derived.SizedLaws
set_option linter.unusedVariables false
set_option linter.unusedSimpArgs false
set_option maxHeartbeats 4000000
set_option maxRecDepth 8000
namespace Go.Proofs.Ythijngfoamnjkaa.topNames
open Go Gw Gp Go.Proofs Go.ChangeShapes Go.WideShapes Go.ChangeAt Go.RowKit
theorem own : ownKnob Try.prog.godebug = none := by kernel_rfl
theorem laidOut : laidOutB Try.prog = true := by kernel_rfl
set_option maxRecDepth 100000 in
theorem lifted (os : Os) (started : os.Started) (H : Type) (enc : TypeId × Value → H) :
    ReturnsInHanded {} Try.checked os 3 .any (Rows.topNamesSpec.pre6 enc Try.prog Try.f3 Rows.topNamesRow.domain false) (Rows.topNamesSpec.post enc Try.prog Try.f3 false true false false) := by
  refine returnsInHanded_of_change_sized (C := Try.checked) own started (by kernel_rfl) Try.func3
    (ChangeSpec.witness6 (enc := enc) (C := Try.checked) false ⟨#[], #[.agg #[.int .i64 0, .int .i64 0, .int .i64 0, .int .i64 0, .int .i64 0, .int .i64 0, .int .i64 0, .int .i64 0, .int .i64 0, .int .i64 0, .int .i64 0, .int .i64 0], .int .i64 0, .agg #[.int .i64 0, .int .i64 0, .int .i64 0, .int .i64 0, .int .i64 0, .int .i64 0]], []⟩ 8 (by kernel_rfl) (by kernel_rfl) (by kernel_rfl) (by kernel_rfl)) ?_
  intro W base args ds gs before hval0 hW hcnd hsz0 _
  have hval : ∀ (j : Nat) t v, Try.f3.params[j]? = some t → args[j]? = some v → Value.okWide Try.prog W .any base t v := hval0
  have hW' := hW
  obtain ⟨p, q, hA0, hV, rfl, hfz, hnd⟩ := hW
  have hA : DataW.TrodAll enc Try.prog W 0 (fun _ => true) true Try.f3.params.toList args.toList ds p := hA0
  rw [Try.params3] at hA hval
  obtain ⟨v0, vs0, d0, ds0, p0, q0, hargs, rfl, rfl, h0, r0⟩ := trodAll_cons hA
  obtain ⟨v1, vs1, d1, ds1, p1, q1, rfl, rfl, rfl, h1, r1⟩ := trodAll_cons r0
  obtain ⟨v2, vs2, d2, ds2, p2, q2, rfl, rfl, rfl, h2, r2⟩ := trodAll_cons r1
  obtain ⟨rfl, rfl, rfl⟩ := trodAll_nil r2
  obtain rfl : args = #[v0, v1, v2] := by cases args; simp_all
  obtain ⟨rfl, rfl⟩ := trodVars_none hV
  obtain ⟨cs0, rfl, _⟩ := okWide_array Try.underlying24 (hval 0 24 v0 rfl rfl)
  have k0 := h0
  have lt0 : ∀ x ∈ p0, x.block < W.heap.size := by obtain ⟨m, hm⟩ := k0; exact DataW.trod_lt m _ _ _ hm
  obtain ⟨fuel0, h0⟩ := h0
  obtain ⟨a0, e0, w0⟩ := opn_A3_Tile_24 h0
  obtain rfl : cs0 = #[.int .i64 a0.e0.N, .int .i64 a0.e0.E, .int .i64 a0.e0.S, .int .i64 a0.e0.W, .int .i64 a0.e1.N, .int .i64 a0.e1.E, .int .i64 a0.e1.S, .int .i64 a0.e1.W, .int .i64 a0.e2.N, .int .i64 a0.e2.E, .int .i64 a0.e2.S, .int .i64 a0.e2.W] := Array.ext' e0
  obtain ⟨a1, rfl, rfl, rfl, w1⟩ := open_int Try.underlying3 (hval 1 3 v1 rfl rfl) h1
  obtain ⟨cs2, rfl, _⟩ := okWide_array Try.underlying25 (hval 2 25 v2 rfl rfl)
  have k2 := h2
  have lt2 : ∀ x ∈ p2, x.block < W.heap.size := by obtain ⟨m, hm⟩ := k2; exact DataW.trod_lt m _ _ _ hm
  obtain ⟨fuel2, h2⟩ := h2
  obtain ⟨a2, e2, w2⟩ := opn_A6_Int_25 h2
  obtain rfl : cs2 = #[.int .i64 a2.e0, .int .i64 a2.e1, .int .i64 a2.e2, .int .i64 a2.e3, .int .i64 a2.e4, .int .i64 a2.e5] := Array.ext' e2
  obtain ⟨k, hp⟩ := Gp.top_TopNames_pure a0 a1 a2 w0 (wf64 w1) w2
  have hc : CallsR Try.prog 3 #[.agg #[.int .i64 a0.e0.N, .int .i64 a0.e0.E, .int .i64 a0.e0.S, .int .i64 a0.e0.W, .int .i64 a0.e1.N, .int .i64 a0.e1.E, .int .i64 a0.e1.S, .int .i64 a0.e1.W, .int .i64 a0.e2.N, .int .i64 a0.e2.E, .int .i64 a0.e2.S, .int .i64 a0.e2.W], .int .i64 a1, .agg #[.int .i64 a2.e0, .int .i64 a2.e1, .int .i64 a2.e2, .int .i64 a2.e3, .int .i64 a2.e4, .int .i64 a2.e5]] W (fun v w' => v = .bool true ∧ Keeps NoS W w') := top_TopNames_calls k a0 a1 a2  true W  hp
  refine hc.mono fun e W' ⟨v, he, hv, hk⟩ => ?_
  subst he hv
  have bel := hk.below
  exact ⟨_, rfl, _, _, _, [], _, [], hW', trodAll_mk1 (shut_bool Try.underlying4 _), (trodAll_cons_mk (Below.trod laidOut (by kernel_rfl) (of_decide_eq_true (by kernel_rfl)) k0 bel lt0) (trodAll_cons_mk (shut_int Try.underlying3 w1) (trodAll_cons_mk (Below.trod laidOut (by kernel_rfl) (of_decide_eq_true (by kernel_rfl)) k2 bel lt2) trodAll_mk0))), rfl, bel.frame _, fun h => by cases h⟩
theorem over : Rows.topNamesRow.holds Try.pinned (OpenSpec.ofChange Rows.topNamesSpec) :=
  OpenClaim.holds_of_wide 3 Try.f3 rfl rfl rfl rfl rfl rfl rfl ⟨rfl, rfl, rfl, rfl, rfl⟩ rfl rfl rfl rfl rfl (by kernel_rfl) Try.func3 (by kernel_rfl)
    (of_decide_eq_true (by kernel_rfl)) (by unfold Func.isWrapper; first | (rw [if_pos (by decide +kernel)]; kernel_rfl) | (rw [if_neg (by decide +kernel)]; exact ⟨rfl, rfl⟩))
    (fun os started H enc _ => lifted os started H enc)
theorem proved : Rows.TopNamesSaid := over
end Go.Proofs.Ythijngfoamnjkaa.topNames
namespace Go.Proofs.Ythijngfoamnjkaa
theorem topNames_holds : Rows.TopNamesSaid := topNames.proved
end Go.Proofs.Ythijngfoamnjkaa
#print axioms Go.Proofs.Ythijngfoamnjkaa.topNames_holds
