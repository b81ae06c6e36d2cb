/- For every input the law returns true, and each argument reads afterwards as it read before. Under the condition that the listed variables of Go's library hold what the program's text lays; the card ties this to the text. -/
import Derived.Test.YtfehljifahnipaaDoorGx4
import Derived.Test.YtfehljifahnipaaDoorGq
import Derived.Test.YtfehljifahnipaaDoorRows
import Derived.Test.YtfehljifahnipaaDoorCards
import Derived.Test.YtfehljifahnipaaDoorTie
import Derived.WalkKit
import Derived.ProofKit
import Derived.OpenShut
import Derived.ShutString
import Derived.ChangeOld
import Derived.Below
import Derived.SizedLaws
import Derived.LaidMore
import Derived.Lay
import Derived.SevenTiedAt
import Derived.Stop.Joined
import Derived.HandedShaped
import Derived.Shelf.Vars
import Derived.Lib.LaidTab
set_option linter.unusedVariables false
set_option linter.unusedSimpArgs false
set_option maxHeartbeats 4000000
set_option maxRecDepth 8000
namespace Go.Proofs.YtfehljifahnipaaDoor.topNoPeriod
open Go Gw Gp Go.Proofs Go.ChangeShapes Go.WideShapes Go.ChangeAt Go.RowKit
theorem handed_and_shaped {H : Type} {enc : TypeId × Value → H} {a : Assume} {C : Checked} {os : Os} {f : FuncId} {fn : Func} {s : ChangeSpec} {conds : List PathCond} {apart fresh handsOn again : Bool} {X : World → Array Value → Prop}
    (hX : ∀ (w w' : World) (args : Array Value), w.heap = w'.heap → X w args → X w' args)
    (own : ownKnob C.prog.godebug = none) (started : os.Started) (noInit : C.prog.inits.idxOf? f = none) (hfn : C.prog.funcs[f]? = some fn)
    (witness : ∃ (w : World) (tape : Tape) (i : Input), w.os = os ∧ (w.forCall tape i).Shaped C.prog ∧ i.vars = [] ∧ Input.okWide C.prog (w.forCall tape i) .any w.heap.size f i ∧
      ((s.pre enc C.prog fn conds apart (w.forCall tape i).memory i.args ∧ X (w.forCall tape i).memory i.args) ∧ sizedMet enc C.prog fn (OpenSpec.ofChange s) apart (w.forCall tape i).memory i.args) ∧ a.holds C.prog (lone (Frame.enter C.prog f i.args .normal) [] (w.forCall tape i)))
    (contract : ∀ (W : World) (base : Nat) (args : Array Value) (ds gs : List (DataW H)) (before : List MemPlace),
      (∀ (j : Nat) t v, fn.params[j]? = some t → args[j]? = some v → Value.okWide C.prog W .any base t v) →
      DataW.Whole enc C.prog fn.params.toList s.vars apart W args.toList ds gs before →
      conds.all (PathCond.test C.prog ⟨fn.params.toList, ds, s.plain.varTypes C.prog, gs⟩) = true → W.ShapedOpen C.prog → X W args →
      Calls C.prog f args W fun e W' => ∃ v, e = .returned v ∧ s.post enc C.prog fn apart fresh handsOn again W args v W') :
    ReturnsInHanded a C os f .any (fun w args => (s.pre enc C.prog fn conds apart w args ∧ X w args) ∧ sizedMet enc C.prog fn (OpenSpec.ofChange s) apart w args) (s.post enc C.prog fn apart fresh handsOn again) := by
  refine returnsInHanded_of_calls own started noInit witness ?_
  intro w tape i _ hsh _ hok hpre _
  obtain ⟨_, _, _, fn', hfn', _, _, _, _, hval⟩ := hok
  have e : fn' = fn := Option.some.inj (hfn'.symm.trans hfn)
  subst e
  obtain ⟨⟨⟨ds, gs, before, hw, hc⟩, hx⟩, _⟩ := hpre
  have hw' := DataW.Whole.of_heap (w' := w.forCall tape i) (by rfl) hw
  refine (contract (w.forCall tape i) w.heap.size i.args ds gs before hval hw' hc hsh (hX _ _ _ (by rfl) hx)).mono fun e W' ⟨v, he, hp⟩ => ?_
  subst he
  exact ChangeSpec.post_blind hp
theorem own : ownKnob Tryd.prog.godebug = none := by kernel_rfl
theorem laidOut : laidOutB Tryd.prog = true := by kernel_rfl
set_option maxRecDepth 100000 in
theorem lifted (os : Os) (started : os.Started) (H : Type) (enc : TypeId × Value → H) :
    ReturnsInHanded {} Tryd.checked os 3 .any (fun w args => (Rows.topNoPeriodSpec.pre enc Tryd.prog Tryd.f3 Rows.topNoPeriodRow.domain false w args ∧ laidMetH Tryd.prog Rows.topNoPeriodRow.laid w) ∧ sizedMet enc Tryd.prog Tryd.f3 (OpenSpec.ofChange Rows.topNoPeriodSpec) false w args) (Rows.topNoPeriodSpec.post enc Tryd.prog Tryd.f3 false true false false) := by
  refine handed_and_shaped (C := Tryd.checked) (X := fun w _ => laidMetH Tryd.prog Rows.topNoPeriodRow.laid w) (fun _ _ _ hh h => h.of_heap hh) own started (by kernel_rfl) Tryd.func3
    (ChangeSpec.witness_shaped (enc := enc) (C := Tryd.checked) (os := os) (X := fun w _ => laidMetH Tryd.prog Rows.topNoPeriodRow.laid w) false (World.laidAll Tryd.prog os Rows.topNoPeriodRow.laid) #[.slice none 0 0, .agg #[.slice none 0 0, .slice none 0 0, .slice none 0 0, .slice none 0 0, .slice none 0 0], .agg #[.int .i64 0, .int .i64 0, .slice none 0 0]] 8 (World.laidAll_os _ _ _)
      (World.shaped_of_ZipB (by kernel_rfl) (by kernel_rfl)) (by kernel_rfl) (by kernel_rfl) (by kernel_rfl)
      (by rw [MakeChecks.laidMetH_plain _ _ _ (by kernel_rfl)]; exact laidMet_laidAll _ (by kernel_rfl) (by kernel_rfl))) ?_
  intro W base args ds gs before hval0 hW hcnd hsh hL
  have hval : ∀ (j : Nat) t v, Tryd.f3.params[j]? = some t → args[j]? = some v → Value.okWide Tryd.prog W .any base t v := hval0
  have hW' := hW
  obtain ⟨p, q, hA0, hV, rfl, hfz, hnd⟩ := hW
  have hA : DataW.TrodAll enc Tryd.prog W 0 (fun _ => true) true Tryd.f3.params.toList args.toList ds p := hA0
  rw [Tryd.params3] at hA hval
  obtain ⟨v0, vs0, d0, ds0, p0, q0, hargs, rfl, rfl, h0, r0⟩ := trodAll_cons hA
  obtain ⟨v1, vs1, d1, ds1, p1, q1, rfl, rfl, rfl, h1, r1⟩ := trodAll_cons r0
  obtain ⟨v2, vs2, d2, ds2, p2, q2, rfl, rfl, rfl, h2, r2⟩ := trodAll_cons r1
  obtain ⟨rfl, rfl, rfl⟩ := trodAll_nil r2
  obtain rfl : args = #[v0, v1, v2] := by cases args; simp_all
  obtain ⟨rfl, rfl⟩ := trodVars_none hV
  obtain ⟨A0, len0, c0, rfl⟩ := okWide_slice Tryd.underlying22 (hval 0 22 v0 rfl rfl)
  have k0 := h0
  have lt0 : ∀ x ∈ p0, x.block < W.heap.size := by obtain ⟨m, hm⟩ := k0; exact DataW.trod_lt m _ _ _ hm
  obtain ⟨fuel0, h0⟩ := h0
  obtain ⟨A0', c0', a0, e0, o0, w0, m0⟩ := opn_row Tryd.underlying22 opens_Tile_39 h0
  injection e0 with e0 _
  injection e0 with e1 e2 e3
  subst e1 e2 e3
  obtain ⟨cs1, rfl, _⟩ := okWide_struct Tryd.underlying26 (hval 1 26 v1 rfl rfl)
  have k1 := h1
  have lt1 : ∀ x ∈ p1, x.block < W.heap.size := by obtain ⟨m, hm⟩ := k1; exact DataW.trod_lt m _ _ _ hm
  obtain ⟨fuel1, h1⟩ := h1
  obtain ⟨a1, A1_0, c1_0, A1_1, c1_1, A1_2, c1_2, A1_3, c1_3, A1_4, c1_4, e1, o1_0, o1_1, o1_2, o1_3, o1_4, w1⟩ := opn_Weights_26 h1
  obtain rfl : cs1 = #[.slice A1_0 a1.Values.length c1_0, .slice A1_1 a1.Carries.length c1_1, .slice A1_2 a1.Factors.length c1_2, .slice A1_3 a1.Primes.length c1_3, .slice A1_4 a1.Logs.length c1_4] := Array.ext' e1
  obtain ⟨cs2, rfl, _⟩ := okWide_struct Tryd.underlying28 (hval 2 28 v2 rfl rfl)
  have k2 := h2
  have lt2 : ∀ x ∈ p2, x.block < W.heap.size := by obtain ⟨m, hm⟩ := k2; exact DataW.trod_lt m _ _ _ hm
  obtain ⟨fuel2, h2⟩ := h2
  obtain ⟨a2, A2_0, c2_0, e2, o2_0, w2⟩ := opn_Pattern_28 h2
  obtain rfl : cs2 = #[.int .i64 a2.Width, .int .i64 a2.Height, .slice A2_0 a2.Cells.length c2_0] := Array.ext' e2
  obtain ⟨k, hp⟩ := Gp.top_TopNoPeriod_pure a0 a1 a2 ⟨w0, m0⟩ w1 w2
  have hL1 : laidMet Tryd.prog Rows.topNoPeriodRow.laid W := by rw [← MakeChecks.laidMetH_plain _ _ _ (by kernel_rfl)]; exact hL
  have hT := Lib.tabIs_of_head (P := Tryd.prog) (name := "groutwork/weight.moduli") (k := .u64) (zs := [2305843009213693951, 2305843009213693921, 2305843009213693907]) (g := 0) (t := 61) (e := 60) (n := 3) (by kernel_rfl) (by kernel_rfl) Tryd.underlying61 Tryd.underlying60 (by kernel_rfl) (by kernel_rfl) hL1
  have hgt : Tryd.prog.globalNamed "groutwork/weight.moduli" = some 0 := by kernel_rfl
  have hG : RO NoS W (tabO 0 #[(.int .u64 2305843009213693951), (.int .u64 2305843009213693921), (.int .u64 2305843009213693907)]) := tab_of hgt hT
  have hc : CallsR Tryd.prog 3 #[.slice A0 a0.length c0, .agg #[.slice A1_0 a1.Values.length c1_0, .slice A1_1 a1.Carries.length c1_1, .slice A1_2 a1.Factors.length c1_2, .slice A1_3 a1.Primes.length c1_3, .slice A1_4 a1.Logs.length c1_4], .agg #[.int .i64 a2.Width, .int .i64 a2.Height, .slice A2_0 a2.Cells.length c2_0]] W (fun v w' => v = .bool true ∧ Keeps NoS W w') := top_TopNoPeriod_calls k a0 a1 a2 A0 c0 A1_0 c1_0 A1_1 c1_1 A1_2 c1_2 A1_3 c1_3 A1_4 c1_4 A2_0 c2_0 true W o0 o1_0 o1_1 o1_2 o1_3 o1_4 o2_0 hG hp
  refine hc.mono fun e W' ⟨v, he, hv, hk⟩ => ?_
  subst he hv
  have bel := hk.below
  exact ⟨_, rfl, _, _, _, [], _, [], hW', trodAll_mk1 (shut_bool Tryd.underlying4 _), (trodAll_cons_mk (Below.trod laidOut (by kernel_rfl) (of_decide_eq_true (by kernel_rfl)) k0 bel lt0) (trodAll_cons_mk (Below.trod laidOut (by kernel_rfl) (of_decide_eq_true (by kernel_rfl)) k1 bel lt1) (trodAll_cons_mk (Below.trod laidOut (by kernel_rfl) (of_decide_eq_true (by kernel_rfl)) k2 bel lt2) trodAll_mk0))), rfl, bel.frame _, fun h => by cases h⟩
theorem over : Rows.topNoPeriodRow.holds Tryd.pinned (OpenSpec.ofChange Rows.topNoPeriodSpec) :=
  OpenClaim.holds_of_wide 3 Tryd.f3 rfl rfl rfl rfl rfl rfl rfl ⟨rfl, rfl, rfl, rfl, rfl⟩ rfl rfl rfl rfl rfl (by kernel_rfl) Tryd.func3 (by kernel_rfl)
    (of_decide_eq_true (by kernel_rfl)) (by unfold Func.isWrapper; first | (rw [if_pos (by decide +kernel)]; kernel_rfl) | (rw [if_neg (by decide +kernel)]; exact ⟨rfl, rfl⟩))
    (fun os started H enc _ => lifted os started H enc)
theorem proved : Rows.TopNoPeriodSaid := over
theorem card : Rows.TopNoPeriodCardSaid :=
  Claim7.holds_tied_plain_at .later [] [.data] true (true, "72c20731613f35813e522bddd131b67a3643dada772ec3ad62005ac16dd0ff64") false over (fun _ h => by cases h) (by kernel_rfl) (fun _ h => by cases h) topNoPeriod_row_tie rfl ⟨rfl, rfl⟩ (by kernel_rfl) rfl
    (fun f fn hf hfn => by
      obtain rfl : f = 3 := Option.some.inj ((show Tryd.prog.funcNamed "groutwork/groutworktop.TopNoPeriod" = some 3 by kernel_rfl).symm.trans hf) |>.symm
      obtain rfl : fn = Tryd.f3 := (Option.some.inj (Tryd.func3.symm.trans hfn)).symm
      exact ⟨by kernel_rfl, fun j t ht => by
        rw [Tryd.params3] at ht
        have hm : t ∈ [22, 26, 28] := by simpa using Array.mem_of_getElem? ht
        have hall : ([22, 26, 28].all fun u => !Tryd.prog.wantsStandIn u) = true := by kernel_rfl
        exact (show Tryd.prog.wantsStandIn t = false by simpa using List.all_eq_true.1 hall t hm)⟩)
    (by kernel_rfl)
end Go.Proofs.YtfehljifahnipaaDoor.topNoPeriod
namespace Go.Proofs.YtfehljifahnipaaDoor
theorem topNoPeriod_holds : Rows.TopNoPeriodCardSaid := topNoPeriod.card
end Go.Proofs.YtfehljifahnipaaDoor
#print axioms Go.Proofs.YtfehljifahnipaaDoor.topNoPeriod_holds
