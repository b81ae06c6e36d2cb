/- For every input the law returns true, and each argument reads afterwards as it read before. -/
import Derived.Test.YtpbnoldflfcllaaGx4
import Derived.Test.YtpbnoldflfcllaaGq
import Derived.Test.YtpbnoldflfcllaaRows
import Derived.WalkKit
import Derived.ProofKit
import Derived.OpenShut
import Derived.ShutString
import Derived.ChangeOld
import Derived.Below
import Derived.SizedLaws
set_option linter.unusedVariables false
set_option linter.unusedSimpArgs false
set_option maxHeartbeats 4000000
set_option maxRecDepth 8000
namespace Go.Proofs.Ytpbnoldflfcllaa.censusMember
open Go Gw Gp Go.Proofs Go.ChangeShapes Go.WideShapes Go.ChangeAt Go.RowKit
theorem own : ownKnob Try.prog.godebug = none := by kernel_rfl
theorem laidOut : laidOutB Try.prog = true := by kernel_rfl
set_option maxRecDepth 100000 in
theorem lifted (os : Os) (started : os.Started) (H : Type) (enc : TypeId × Value → H) :
    ReturnsInHanded {} Try.checked os 6 .any (Rows.censusMemberSpec.pre6 enc Try.prog Try.f6 Rows.censusMemberRow.domain false) (Rows.censusMemberSpec.post enc Try.prog Try.f6 false true false false) := by
  refine returnsInHanded_of_change_sized (C := Try.checked) own started (by kernel_rfl) Try.func6
    (ChangeSpec.witness6 (enc := enc) (C := Try.checked) false ⟨#[], #[.slice none 0 0], []⟩ 8 (by kernel_rfl) (by kernel_rfl) (by kernel_rfl) (by kernel_rfl)) ?_
  intro W base args ds gs before hval0 hW hcnd hsz0 _
  have hval : ∀ (j : Nat) t v, Try.f6.params[j]? = some t → args[j]? = some v → Value.okWide Try.prog W .any base t v := hval0
  have hW' := hW
  obtain ⟨p, q, hA0, hV, rfl, hfz, hnd⟩ := hW
  have hA : DataW.TrodAll enc Try.prog W 0 (fun _ => true) true Try.f6.params.toList args.toList ds p := hA0
  rw [Try.params6] at hA hval
  obtain ⟨v0, vs0, d0, ds0, p0, q0, hargs, rfl, rfl, h0, r0⟩ := trodAll_cons hA
  obtain ⟨rfl, rfl, rfl⟩ := trodAll_nil r0
  obtain rfl : args = #[v0] := by cases args; simp_all
  obtain ⟨rfl, rfl⟩ := trodVars_none hV
  obtain ⟨A0, len0, c0, rfl⟩ := okWide_slice Try.underlying28 (hval 0 28 v0 rfl rfl)
  have k0 := h0
  have lt0 : ∀ x ∈ p0, x.block < W.heap.size := by obtain ⟨m, hm⟩ := k0; exact DataW.trod_lt m _ _ _ hm
  obtain ⟨fuel0, h0⟩ := h0
  obtain ⟨A0', c0', a0, e0, o0, w0, m0⟩ := opn_row Try.underlying28 opens_Tile_48 h0
  injection e0 with e0 _
  injection e0 with e1 e2 e3
  subst e1 e2 e3
  obtain ⟨k, hp⟩ := Gp.law10_CensusMember_pure a0 ⟨w0, m0⟩
  have hc : CallsR Try.prog 6 #[.slice A0 a0.length c0] W (fun v w' => v = .bool true ∧ Keeps NoS W w') := law10_CensusMember_calls k a0 A0 c0 true W o0 hp
  refine hc.mono fun e W' ⟨v, he, hv, hk⟩ => ?_
  subst he hv
  have bel := hk.below
  exact ⟨_, rfl, _, _, _, [], _, [], hW', trodAll_mk1 (shut_bool Try.underlying4 _), (trodAll_cons_mk (Below.trod laidOut (by kernel_rfl) (of_decide_eq_true (by kernel_rfl)) k0 bel lt0) trodAll_mk0), rfl, bel.frame _, fun h => by cases h⟩
theorem over : Rows.censusMemberRow.holds Try.pinned (OpenSpec.ofChange Rows.censusMemberSpec) :=
  OpenClaim.holds_of_wide 6 Try.f6 rfl rfl rfl rfl rfl rfl rfl ⟨rfl, rfl, rfl, rfl, rfl⟩ rfl rfl rfl rfl rfl (by kernel_rfl) Try.func6 (by kernel_rfl)
    (of_decide_eq_true (by kernel_rfl)) (by unfold Func.isWrapper; first | (rw [if_pos (by decide +kernel)]; kernel_rfl) | (rw [if_neg (by decide +kernel)]; exact ⟨rfl, rfl⟩))
    (fun os started H enc _ => lifted os started H enc)
theorem proved : Rows.CensusMemberSaid := over
end Go.Proofs.Ytpbnoldflfcllaa.censusMember
namespace Go.Proofs.Ytpbnoldflfcllaa
theorem censusMember_holds : Rows.CensusMemberSaid := censusMember.proved
end Go.Proofs.Ytpbnoldflfcllaa
#print axioms Go.Proofs.Ytpbnoldflfcllaa.censusMember_holds
