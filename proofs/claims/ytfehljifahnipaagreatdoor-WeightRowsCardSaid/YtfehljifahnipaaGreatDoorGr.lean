/- For every input the law returns true, and each argument reads afterwards as it read before. Under the condition that the listed variables of Go's library hold what the program's text lays; the card ties this to the text. -/
import Derived.Test.YtfehljifahnipaaGreatDoorGx4
import Derived.Test.YtfehljifahnipaaGreatDoorGq
import Derived.Test.YtfehljifahnipaaGreatDoorRows
import Derived.Test.YtfehljifahnipaaGreatDoorCards
import Derived.Test.YtfehljifahnipaaGreatDoorTie
import Derived.WalkKit
import Derived.ProofKit
import Derived.OpenShut
import Derived.ShutString
import Derived.ChangeOld
import Derived.Below
import Derived.SizedLaws
import Derived.LaidMore
import Derived.Lay
import Derived.SevenTiedAt
import Derived.Stop.Joined
import Derived.HandedShaped
import Derived.Shelf.Vars
import Derived.Stop.LaidErr
import Derived.ChangeMaps5
import Derived.Lib.LaidTab
set_option linter.unusedVariables false
set_option linter.unusedSimpArgs false
set_option maxHeartbeats 4000000
set_option maxRecDepth 8000
namespace Go.Proofs.YtfehljifahnipaaGreatDoor.weightRows
open Go Gw Gp Go.Proofs Go.ChangeShapes Go.WideShapes Go.ChangeAt Go.RowKit
theorem handed_and_shaped {H : Type} {enc : TypeId × Value → H} {a : Assume} {C : Checked} {os : Os} {f : FuncId} {fn : Func} {s : ChangeSpec} {conds : List PathCond} {apart fresh handsOn again : Bool} {X : World → Array Value → Prop}
    (hX : ∀ (w w' : World) (args : Array Value), w.heap = w'.heap → X w args → X w' args)
    (own : ownKnob C.prog.godebug = none) (started : os.Started) (noInit : C.prog.inits.idxOf? f = none) (hfn : C.prog.funcs[f]? = some fn)
    (witness : ∃ (w : World) (tape : Tape) (i : Input), w.os = os ∧ (w.forCall tape i).Shaped C.prog ∧ i.vars = [] ∧ Input.okWide C.prog (w.forCall tape i) .any w.heap.size f i ∧
      ((s.pre enc C.prog fn conds apart (w.forCall tape i).memory i.args ∧ X (w.forCall tape i).memory i.args) ∧ sizedMet enc C.prog fn (OpenSpec.ofChange s) apart (w.forCall tape i).memory i.args) ∧ a.holds C.prog (lone (Frame.enter C.prog f i.args .normal) [] (w.forCall tape i)))
    (contract : ∀ (W : World) (base : Nat) (args : Array Value) (ds gs : List (DataW H)) (before : List MemPlace),
      (∀ (j : Nat) t v, fn.params[j]? = some t → args[j]? = some v → Value.okWide C.prog W .any base t v) →
      DataW.Whole enc C.prog fn.params.toList s.vars apart W args.toList ds gs before →
      conds.all (PathCond.test C.prog ⟨fn.params.toList, ds, s.plain.varTypes C.prog, gs⟩) = true → W.ShapedOpen C.prog → X W args →
      Calls C.prog f args W fun e W' => ∃ v, e = .returned v ∧ s.post enc C.prog fn apart fresh handsOn again W args v W') :
    ReturnsInHanded a C os f .any (fun w args => (s.pre enc C.prog fn conds apart w args ∧ X w args) ∧ sizedMet enc C.prog fn (OpenSpec.ofChange s) apart w args) (s.post enc C.prog fn apart fresh handsOn again) := by
  refine returnsInHanded_of_calls own started noInit witness ?_
  intro w tape i _ hsh _ hok hpre _
  obtain ⟨_, _, _, fn', hfn', _, _, _, _, hval⟩ := hok
  have e : fn' = fn := Option.some.inj (hfn'.symm.trans hfn)
  subst e
  obtain ⟨⟨⟨ds, gs, before, hw, hc⟩, hx⟩, _⟩ := hpre
  have hw' := DataW.Whole.of_heap (w' := w.forCall tape i) (by rfl) hw
  refine (contract (w.forCall tape i) w.heap.size i.args ds gs before hval hw' hc hsh (hX _ _ _ (by rfl) hx)).mono fun e W' ⟨v, he, hp⟩ => ?_
  subst he
  exact ChangeSpec.post_blind hp
theorem own : ownKnob Tryz.prog.godebug = none := by kernel_rfl
theorem laidOut : laidOutB Tryz.prog = true := by kernel_rfl
set_option maxRecDepth 100000 in
theorem lifted (os : Os) (started : os.Started) (H : Type) (enc : TypeId × Value → H) :
    ReturnsInHanded {} Tryz.checked os 5 .any (fun w args => (Rows.weightRowsSpec.pre enc Tryz.prog Tryz.f5 Rows.weightRowsRow.domain false w args ∧ laidMetH Tryz.prog Rows.weightRowsRow.laid w) ∧ sizedMet enc Tryz.prog Tryz.f5 (OpenSpec.ofChange Rows.weightRowsSpec) false w args) (Rows.weightRowsSpec.post enc Tryz.prog Tryz.f5 false true false false) := by
  refine handed_and_shaped (C := Tryz.checked) (X := fun w _ => laidMetH Tryz.prog Rows.weightRowsRow.laid w) (fun _ _ _ hh h => h.of_heap hh) own started (by kernel_rfl) Tryz.func5
    (ChangeSpec.witness_shaped (enc := enc) (C := Tryz.checked) (os := os) (X := fun w _ => laidMetH Tryz.prog Rows.weightRowsRow.laid w) false (World.laidAll Tryz.prog os Rows.weightRowsRow.laid) #[.slice none 0 0, .agg #[.slice none 0 0, .slice none 0 0, .slice none 0 0, .slice none 0 0, .slice none 0 0], .slice none 0 0] 8 (World.laidAll_os _ _ _)
      (World.shaped_of_ZipB (by kernel_rfl) (by kernel_rfl)) (by kernel_rfl) (by kernel_rfl) (by kernel_rfl)
      (by rw [MakeChecks.laidMetH_plain _ _ _ (by kernel_rfl)]; exact laidMet_laidAll _ (by kernel_rfl) (by kernel_rfl))) ?_
  intro W base args ds gs before hval0 hW hcnd hsh hL
  have hval : ∀ (j : Nat) t v, Tryz.f5.params[j]? = some t → args[j]? = some v → Value.okWide Tryz.prog W .any base t v := hval0
  have hW' := hW
  obtain ⟨p, q, hA0, hV, rfl, hfz, hnd⟩ := hW
  have hA : DataW.TrodAll enc Tryz.prog W 0 (fun _ => true) true Tryz.f5.params.toList args.toList ds p := hA0
  rw [Tryz.params5] at hA hval
  obtain ⟨v0, vs0, d0, ds0, p0, q0, hargs, rfl, rfl, h0, r0⟩ := trodAll_cons hA
  obtain ⟨v1, vs1, d1, ds1, p1, q1, rfl, rfl, rfl, h1, r1⟩ := trodAll_cons r0
  obtain ⟨v2, vs2, d2, ds2, p2, q2, rfl, rfl, rfl, h2, r2⟩ := trodAll_cons r1
  obtain ⟨rfl, rfl, rfl⟩ := trodAll_nil r2
  obtain rfl : args = #[v0, v1, v2] := by cases args; simp_all
  obtain ⟨rfl, rfl⟩ := trodVars_none hV
  obtain ⟨A0, len0, c0, rfl⟩ := okWide_slice Tryz.underlying22 (hval 0 22 v0 rfl rfl)
  have k0 := h0
  have lt0 : ∀ x ∈ p0, x.block < W.heap.size := by obtain ⟨m, hm⟩ := k0; exact DataW.trod_lt m _ _ _ hm
  obtain ⟨fuel0, h0⟩ := h0
  obtain ⟨A0', c0', a0, e0, o0, w0, m0⟩ := opn_row Tryz.underlying22 opens_Tile_44 h0
  injection e0 with e0 _
  injection e0 with e1 e2 e3
  subst e1 e2 e3
  obtain ⟨cs1, rfl, _⟩ := okWide_struct Tryz.underlying26 (hval 1 26 v1 rfl rfl)
  have k1 := h1
  have lt1 : ∀ x ∈ p1, x.block < W.heap.size := by obtain ⟨m, hm⟩ := k1; exact DataW.trod_lt m _ _ _ hm
  obtain ⟨fuel1, h1⟩ := h1
  obtain ⟨a1, A1_0, c1_0, A1_1, c1_1, A1_2, c1_2, A1_3, c1_3, A1_4, c1_4, e1, o1_0, o1_1, o1_2, o1_3, o1_4, w1⟩ := opn_Weights_26 h1
  obtain rfl : cs1 = #[.slice A1_0 a1.Values.length c1_0, .slice A1_1 a1.Carries.length c1_1, .slice A1_2 a1.Factors.length c1_2, .slice A1_3 a1.Primes.length c1_3, .slice A1_4 a1.Logs.length c1_4] := Array.ext' e1
  obtain ⟨A2, len2, c2, rfl⟩ := okWide_slice Tryz.underlying24 (hval 2 24 v2 rfl rfl)
  have k2 := h2
  have lt2 : ∀ x ∈ p2, x.block < W.heap.size := by obtain ⟨m, hm⟩ := k2; exact DataW.trod_lt m _ _ _ hm
  obtain ⟨fuel2, h2⟩ := h2
  obtain ⟨A2', c2', a2, e2, o2, w2, m2⟩ := opn_row Tryz.underlying24 (opens_int Tryz.underlying3 (by kernel_rfl)) h2
  injection e2 with e2 _
  injection e2 with e1 e2 e3
  subst e1 e2 e3
  obtain ⟨k, hp⟩ := Gp.law06_WeightRows_pure a0 a1 a2 ⟨w0, m0⟩ w1 ⟨w2, m2⟩
  have hL1 : laidMet Tryz.prog Rows.weightRowsRow.laid W := by rw [← MakeChecks.laidMetH_plain _ _ _ (by kernel_rfl)]; exact hL
  have hTm := Lib.tabIs_of_head (P := Tryz.prog) (name := "groutwork/weight.moduli") (k := .u64) (zs := [2305843009213693951, 2305843009213693921, 2305843009213693907]) (g := 0) (t := 88) (e := 87) (n := 3) (by kernel_rfl) (by kernel_rfl) Tryz.underlying88 Tryz.underlying87 (by kernel_rfl) (by kernel_rfl) (hL1.tail.tail.tail.tail.tail.tail)
  have hgm : Tryz.prog.globalNamed "groutwork/weight.moduli" = some 0 := by kernel_rfl
  have hGm : RO NoS W (tabO 0 #[(.int .u64 2305843009213693951), (.int .u64 2305843009213693921), (.int .u64 2305843009213693907)]) := tab_of hgm hTm
  obtain ⟨mG, hmG⟩ := cell_of_shapedOpen_int (P := Tryz.prog) (g := 5) (t := 3) (zero := #[.int .i64 0]) (k := .i64) hsh (by decide +kernel) (by kernel_rfl) rfl (by kernel_rfl) (by kernel_rfl) Tryz.underlying3
  have hL1 : laidMet Tryz.prog Rows.weightRowsRow.laid W := by rw [← MakeChecks.laidMetH_plain _ _ _ (by kernel_rfl)]; exact hL
  have hT := Lib.tabIs_of_head (P := Tryz.prog) (name := "internal/strconv.uint64pow10") (k := .u64) (zs := Lib.pow10Tab) (g := 8) (t := 175) (e := 87) (n := 20) (by kernel_rfl) (by kernel_rfl) Tryz.underlying175 Tryz.underlying87 (by kernel_rfl) (by kernel_rfl) (hL1.tail.tail)
  have hrow : ∀ u, Tryz.prog.typeName? 3 u = some "*errors.errorString" → u = 157 := fun u h => typeName_ptr_named (nm := "errors.errorString") (by rw [show "*" ++ "errors.errorString" = "*errors.errorString" by decide]; kernel_rfl) (by kernel_rfl) (by decide) u (by rw [show "*" ++ "errors.errorString" = "*errors.errorString" by decide]; exact h)
  obtain ⟨aR, sR, hvR, _, _, _⟩ := laid_sentinel (hL1.tail.tail.tail.tail) (g := 4) (ti := 83) (by kernel_rfl) (by kernel_rfl) Tryz.underlying83 hrow Tryz.underlying157 Tryz.underlying159 rfl rfl Tryz.underlying9 (by kernel_rfl) (by kernel_rfl)
  obtain ⟨aS, sS, hvS, _, _, _⟩ := laid_sentinel (hL1.tail.tail.tail.tail.tail) (g := 3) (ti := 83) (by kernel_rfl) (by kernel_rfl) Tryz.underlying83 hrow Tryz.underlying157 Tryz.underlying159 rfl rfl Tryz.underlying9 (by kernel_rfl) (by kernel_rfl)
  have hcR : W.cell? ⟨4, 0, none⟩ = some (.iface 157 (.pointer (some aR))) := by have h0 := World.var?_cell (P := Tryz.prog) (g := 4) (by kernel_rfl) hvR 0; simpa using h0
  have hcS : W.cell? ⟨3, 0, none⟩ = some (.iface 157 (.pointer (some aS))) := by have h0 := World.var?_cell (P := Tryz.prog) (g := 3) (by kernel_rfl) hvS 0; simpa using h0
  have hgt : Tryz.prog.globalNamed "internal/strconv.uint64pow10" = some 8 := by kernel_rfl
  have hcT := Lib.TabIs.cell hT hgt 0 (by decide)
  have hG : RO NoS W (gloO Tryz.prog 5 8 3 4 ⟨mG, _, _⟩) := ⟨⟨hmG, ⟨hgt, hT⟩, ⟨hcS, .inr ⟨_, _, rfl⟩⟩, ⟨hcR, .inr ⟨_, _, rfl⟩⟩⟩, fun g hg => ⟨by
    rcases hg with rfl | rfl | rfl | rfl
    · exact World.block_lt_of_cell? _ _ hmG
    · exact World.block_lt_of_cell? _ _ hcT
    · exact World.block_lt_of_cell? _ _ hcS
    · exact World.block_lt_of_cell? _ _ hcR, id⟩⟩
  have hc : CallsR Tryz.prog 5 #[.slice A0 a0.length c0, .agg #[.slice A1_0 a1.Values.length c1_0, .slice A1_1 a1.Carries.length c1_1, .slice A1_2 a1.Factors.length c1_2, .slice A1_3 a1.Primes.length c1_3, .slice A1_4 a1.Logs.length c1_4], .slice A2 a2.length c2] W (fun v w' => v = .bool true ∧ Keeps NoS W w') := law06_WeightRows_calls k a0 a1 a2 A0 c0 A1_0 c1_0 A1_1 c1_1 A1_2 c1_2 A1_3 c1_3 A1_4 c1_4 A2 c2 _ true W o0 o1_0 o1_1 o1_2 o1_3 o1_4 o2 hGm hG hp
  refine hc.mono fun e W' ⟨v, he, hv, hk⟩ => ?_
  subst he hv
  have bel := hk.below
  exact ⟨_, rfl, _, _, _, [], _, [], hW', trodAll_mk1 (shut_bool Tryz.underlying4 _), (trodAll_cons_mk (Below.trod laidOut (by kernel_rfl) (of_decide_eq_true (by kernel_rfl)) k0 bel lt0) (trodAll_cons_mk (Below.trod laidOut (by kernel_rfl) (of_decide_eq_true (by kernel_rfl)) k1 bel lt1) (trodAll_cons_mk (Below.trod laidOut (by kernel_rfl) (of_decide_eq_true (by kernel_rfl)) k2 bel lt2) trodAll_mk0))), rfl, bel.frame _, fun h => by cases h⟩
theorem over : Rows.weightRowsRow.holds Tryz.pinned (OpenSpec.ofChange Rows.weightRowsSpec) :=
  OpenClaim.holds_of_wide 5 Tryz.f5 rfl rfl rfl rfl rfl rfl rfl ⟨rfl, rfl, rfl, rfl, rfl⟩ rfl rfl rfl rfl rfl (by kernel_rfl) Tryz.func5 (by kernel_rfl)
    (of_decide_eq_true (by kernel_rfl)) (by unfold Func.isWrapper; first | (rw [if_pos (by decide +kernel)]; kernel_rfl) | (rw [if_neg (by decide +kernel)]; exact ⟨rfl, rfl⟩))
    (fun os started H enc _ => lifted os started H enc)
theorem proved : Rows.WeightRowsSaid := over
theorem card : Rows.WeightRowsCardSaid :=
  Claim7.holds_tied_plain_at .later [] [.data, .data, .data, .data, .sentinel, .sentinel, .data, .pinned] true (true, "4616882eec761d2f82afd7b197b3d9f7bd6a463a12c1f20a50c73982c6aed5e3") true over (fun _ h => by cases h) (by kernel_rfl) (fun _ h => by cases h) weightRows_row_tie rfl ⟨rfl, rfl⟩ (by kernel_rfl) rfl
    (fun f fn hf hfn => by
      obtain rfl : f = 5 := Option.some.inj ((show Tryz.prog.funcNamed "groutwork/groutworklaw06.WeightRows" = some 5 by kernel_rfl).symm.trans hf) |>.symm
      obtain rfl : fn = Tryz.f5 := (Option.some.inj (Tryz.func5.symm.trans hfn)).symm
      exact ⟨by kernel_rfl, fun j t ht => by
        rw [Tryz.params5] at ht
        have hm : t ∈ [22, 26, 24] := by simpa using Array.mem_of_getElem? ht
        have hall : ([22, 26, 24].all fun u => !Tryz.prog.wantsStandIn u) = true := by kernel_rfl
        exact (show Tryz.prog.wantsStandIn t = false by simpa using List.all_eq_true.1 hall t hm)⟩)
    (by kernel_rfl)
end Go.Proofs.YtfehljifahnipaaGreatDoor.weightRows
namespace Go.Proofs.YtfehljifahnipaaGreatDoor
theorem weightRows_holds : Rows.WeightRowsCardSaid := weightRows.card
end Go.Proofs.YtfehljifahnipaaGreatDoor
#print axioms Go.Proofs.YtfehljifahnipaaGreatDoor.weightRows_holds
