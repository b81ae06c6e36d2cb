/- For every input the law returns true, and each argument reads afterwards as it read before. Under the condition that the listed variables of Go's library hold what the program's text lays; the card ties this to the text. -/
import Derived.Test.YtchikbfmbfoaoaaDoorGx3
import Derived.Test.YtchikbfmbfoaoaaDoorGq
import Derived.Test.YtchikbfmbfoaoaaDoorRows
import Derived.Test.YtchikbfmbfoaoaaDoorCards
import Derived.Test.YtchikbfmbfoaoaaDoorTie
import Derived.WalkKit
import Derived.ProofKit
import Derived.OpenShut
import Derived.ShutString
import Derived.ChangeOld
import Derived.Below
import Derived.SizedLaws
import Derived.LaidMore
import Derived.Lay
import Derived.SevenTiedAt
import Derived.Stop.Joined
import Derived.HandedShaped
import Derived.Shelf.Vars
import Derived.Stop.LaidErr
import Derived.ChangeMaps5
import Derived.Lib.LaidTab
set_option linter.unusedVariables false
set_option linter.unusedSimpArgs false
set_option maxHeartbeats 4000000
set_option maxRecDepth 8000
namespace Go.Proofs.YtchikbfmbfoaoaaDoor.stripRows
open Go Gw Gp Go.Proofs Go.ChangeShapes Go.WideShapes Go.ChangeAt Go.RowKit
theorem handed_and_shaped {H : Type} {enc : TypeId × Value → H} {a : Assume} {C : Checked} {os : Os} {f : FuncId} {fn : Func} {s : ChangeSpec} {conds : List PathCond} {apart fresh handsOn again : Bool} {X : World → Array Value → Prop}
    (hX : ∀ (w w' : World) (args : Array Value), w.heap = w'.heap → X w args → X w' args)
    (own : ownKnob C.prog.godebug = none) (started : os.Started) (noInit : C.prog.inits.idxOf? f = none) (hfn : C.prog.funcs[f]? = some fn)
    (witness : ∃ (w : World) (tape : Tape) (i : Input), w.os = os ∧ (w.forCall tape i).Shaped C.prog ∧ i.vars = [] ∧ Input.okWide C.prog (w.forCall tape i) .any w.heap.size f i ∧
      ((s.pre enc C.prog fn conds apart (w.forCall tape i).memory i.args ∧ X (w.forCall tape i).memory i.args) ∧ sizedMet enc C.prog fn (OpenSpec.ofChange s) apart (w.forCall tape i).memory i.args) ∧ a.holds C.prog (lone (Frame.enter C.prog f i.args .normal) [] (w.forCall tape i)))
    (contract : ∀ (W : World) (base : Nat) (args : Array Value) (ds gs : List (DataW H)) (before : List MemPlace),
      (∀ (j : Nat) t v, fn.params[j]? = some t → args[j]? = some v → Value.okWide C.prog W .any base t v) →
      DataW.Whole enc C.prog fn.params.toList s.vars apart W args.toList ds gs before →
      conds.all (PathCond.test C.prog ⟨fn.params.toList, ds, s.plain.varTypes C.prog, gs⟩) = true → W.ShapedOpen C.prog → X W args →
      Calls C.prog f args W fun e W' => ∃ v, e = .returned v ∧ s.post enc C.prog fn apart fresh handsOn again W args v W') :
    ReturnsInHanded a C os f .any (fun w args => (s.pre enc C.prog fn conds apart w args ∧ X w args) ∧ sizedMet enc C.prog fn (OpenSpec.ofChange s) apart w args) (s.post enc C.prog fn apart fresh handsOn again) := by
  refine returnsInHanded_of_calls own started noInit witness ?_
  intro w tape i _ hsh _ hok hpre _
  obtain ⟨_, _, _, fn', hfn', _, _, _, _, hval⟩ := hok
  have e : fn' = fn := Option.some.inj (hfn'.symm.trans hfn)
  subst e
  obtain ⟨⟨⟨ds, gs, before, hw, hc⟩, hx⟩, _⟩ := hpre
  have hw' := DataW.Whole.of_heap (w' := w.forCall tape i) (by rfl) hw
  refine (contract (w.forCall tape i) w.heap.size i.args ds gs before hval hw' hc hsh (hX _ _ _ (by rfl) hx)).mono fun e W' ⟨v, he, hp⟩ => ?_
  subst he
  exact ChangeSpec.post_blind hp
theorem own : ownKnob Tryd.prog.godebug = none := by kernel_rfl
theorem laidOut : laidOutB Tryd.prog = true := by kernel_rfl
set_option maxRecDepth 100000 in
theorem lifted (os : Os) (started : os.Started) (H : Type) (enc : TypeId × Value → H) :
    ReturnsInHanded {} Tryd.checked os 7 .any (fun w args => (Rows.stripRowsSpec.pre enc Tryd.prog Tryd.f7 Rows.stripRowsRow.domain false w args ∧ laidMetH Tryd.prog Rows.stripRowsRow.laid w) ∧ sizedMet enc Tryd.prog Tryd.f7 (OpenSpec.ofChange Rows.stripRowsSpec) false w args) (Rows.stripRowsSpec.post enc Tryd.prog Tryd.f7 false true false false) := by
  refine handed_and_shaped (C := Tryd.checked) (X := fun w _ => laidMetH Tryd.prog Rows.stripRowsRow.laid w) (fun _ _ _ hh h => h.of_heap hh) own started (by kernel_rfl) Tryd.func7
    (ChangeSpec.witness_shaped (enc := enc) (C := Tryd.checked) (os := os) (X := fun w _ => laidMetH Tryd.prog Rows.stripRowsRow.laid w) false (World.laidAll Tryd.prog os Rows.stripRowsRow.laid) #[.slice none 0 0] 8 (World.laidAll_os _ _ _)
      (World.shaped_of_ZipB (by kernel_rfl) (by kernel_rfl)) (by kernel_rfl) (by kernel_rfl) (by kernel_rfl)
      (by rw [MakeChecks.laidMetH_plain _ _ _ (by kernel_rfl)]; exact laidMet_laidAll _ (by kernel_rfl) (by kernel_rfl))) ?_
  intro W base args ds gs before hval0 hW hcnd hsh hL
  have hval : ∀ (j : Nat) t v, Tryd.f7.params[j]? = some t → args[j]? = some v → Value.okWide Tryd.prog W .any base t v := hval0
  have hW' := hW
  obtain ⟨p, q, hA0, hV, rfl, hfz, hnd⟩ := hW
  have hA : DataW.TrodAll enc Tryd.prog W 0 (fun _ => true) true Tryd.f7.params.toList args.toList ds p := hA0
  rw [Tryd.params7] at hA hval
  obtain ⟨v0, vs0, d0, ds0, p0, q0, hargs, rfl, rfl, h0, r0⟩ := trodAll_cons hA
  obtain ⟨rfl, rfl, rfl⟩ := trodAll_nil r0
  obtain rfl : args = #[v0] := by cases args; simp_all
  obtain ⟨rfl, rfl⟩ := trodVars_none hV
  obtain ⟨A0, len0, c0, rfl⟩ := okWide_slice Tryd.underlying22 (hval 0 22 v0 rfl rfl)
  have k0 := h0
  have lt0 : ∀ x ∈ p0, x.block < W.heap.size := by obtain ⟨m, hm⟩ := k0; exact DataW.trod_lt m _ _ _ hm
  obtain ⟨fuel0, h0⟩ := h0
  obtain ⟨A0', c0', a0, e0, o0, w0, m0⟩ := opn_row Tryd.underlying22 opens_Tile_53 h0
  injection e0 with e0 _
  injection e0 with e1 e2 e3
  subst e1 e2 e3
  obtain ⟨k, hp⟩ := Gp.law04_StripRows_pure a0 ⟨w0, m0⟩
  obtain ⟨mG, hmG⟩ := cell_of_shapedOpen_int (P := Tryd.prog) (g := 2) (t := 3) (zero := #[.int .i64 0]) (k := .i64) hsh (by decide +kernel) (by kernel_rfl) rfl (by kernel_rfl) (by kernel_rfl) Tryd.underlying3
  have hL1 : laidMet Tryd.prog Rows.stripRowsRow.laid W := by rw [← MakeChecks.laidMetH_plain _ _ _ (by kernel_rfl)]; exact hL
  have hT := Lib.tabIs_of_head (P := Tryd.prog) (name := "internal/strconv.uint64pow10") (k := .u64) (zs := Lib.pow10Tab) (g := 5) (t := 174) (e := 69) (n := 20) (by kernel_rfl) (by kernel_rfl) Tryd.underlying174 Tryd.underlying69 (by kernel_rfl) (by kernel_rfl) (hL1.tail.tail)
  have hrow : ∀ u, Tryd.prog.typeName? 3 u = some "*errors.errorString" → u = 156 := fun u h => typeName_ptr_named (nm := "errors.errorString") (by rw [show "*" ++ "errors.errorString" = "*errors.errorString" by decide]; kernel_rfl) (by kernel_rfl) (by decide) u (by rw [show "*" ++ "errors.errorString" = "*errors.errorString" by decide]; exact h)
  obtain ⟨aR, sR, hvR, _, _, _⟩ := laid_sentinel (hL1.tail.tail.tail.tail) (g := 1) (ti := 104) (by kernel_rfl) (by kernel_rfl) Tryd.underlying104 hrow Tryd.underlying156 Tryd.underlying158 rfl rfl Tryd.underlying9 (by kernel_rfl) (by kernel_rfl)
  obtain ⟨aS, sS, hvS, _, _, _⟩ := laid_sentinel (hL1.tail.tail.tail.tail.tail) (g := 0) (ti := 104) (by kernel_rfl) (by kernel_rfl) Tryd.underlying104 hrow Tryd.underlying156 Tryd.underlying158 rfl rfl Tryd.underlying9 (by kernel_rfl) (by kernel_rfl)
  have hcR : W.cell? ⟨1, 0, none⟩ = some (.iface 156 (.pointer (some aR))) := by have h0 := World.var?_cell (P := Tryd.prog) (g := 1) (by kernel_rfl) hvR 0; simpa using h0
  have hcS : W.cell? ⟨0, 0, none⟩ = some (.iface 156 (.pointer (some aS))) := by have h0 := World.var?_cell (P := Tryd.prog) (g := 0) (by kernel_rfl) hvS 0; simpa using h0
  have hgt : Tryd.prog.globalNamed "internal/strconv.uint64pow10" = some 5 := by kernel_rfl
  have hcT := Lib.TabIs.cell hT hgt 0 (by decide)
  have hG : RO NoS W (gloO Tryd.prog 2 5 0 1 ⟨mG, _, _⟩) := ⟨⟨hmG, ⟨hgt, hT⟩, ⟨hcS, .inr ⟨_, _, rfl⟩⟩, ⟨hcR, .inr ⟨_, _, rfl⟩⟩⟩, fun g hg => ⟨by
    rcases hg with rfl | rfl | rfl | rfl
    · exact World.block_lt_of_cell? _ _ hmG
    · exact World.block_lt_of_cell? _ _ hcT
    · exact World.block_lt_of_cell? _ _ hcS
    · exact World.block_lt_of_cell? _ _ hcR, id⟩⟩
  have hc : CallsR Tryd.prog 7 #[.slice A0 a0.length c0] W (fun v w' => v = .bool true ∧ Keeps NoS W w') := law04_StripRows_calls k a0 A0 c0 _ true W o0 hG hp
  refine hc.mono fun e W' ⟨v, he, hv, hk⟩ => ?_
  subst he hv
  have bel := hk.below
  exact ⟨_, rfl, _, _, _, [], _, [], hW', trodAll_mk1 (shut_bool Tryd.underlying4 _), (trodAll_cons_mk (Below.trod laidOut (by kernel_rfl) (of_decide_eq_true (by kernel_rfl)) k0 bel lt0) trodAll_mk0), rfl, bel.frame _, fun h => by cases h⟩
theorem over : Rows.stripRowsRow.holds Tryd.pinned (OpenSpec.ofChange Rows.stripRowsSpec) :=
  OpenClaim.holds_of_wide 7 Tryd.f7 rfl rfl rfl rfl rfl rfl rfl ⟨rfl, rfl, rfl, rfl, rfl⟩ rfl rfl rfl rfl rfl (by kernel_rfl) Tryd.func7 (by kernel_rfl)
    (of_decide_eq_true (by kernel_rfl)) (by unfold Func.isWrapper; first | (rw [if_pos (by decide +kernel)]; kernel_rfl) | (rw [if_neg (by decide +kernel)]; exact ⟨rfl, rfl⟩))
    (fun os started H enc _ => lifted os started H enc)
theorem proved : Rows.StripRowsSaid := over
theorem card : Rows.StripRowsCardSaid :=
  Claim7.holds_tied_plain_at .later [] [.data, .data, .data, .data, .sentinel, .sentinel, .pinned] true (true, "672aec3f3b8406f77dd680cc51fcf4554ad5b3ce0d1d6569c319238d2dd7ad7a") true over (fun _ h => by cases h) (by kernel_rfl) (fun _ h => by cases h) stripRows_row_tie rfl ⟨rfl, rfl⟩ (by kernel_rfl) rfl
    (fun f fn hf hfn => by
      obtain rfl : f = 7 := Option.some.inj ((show Tryd.prog.funcNamed "groutwork/groutworklaw04.StripRows" = some 7 by kernel_rfl).symm.trans hf) |>.symm
      obtain rfl : fn = Tryd.f7 := (Option.some.inj (Tryd.func7.symm.trans hfn)).symm
      exact ⟨by kernel_rfl, fun j t ht => by
        rw [Tryd.params7] at ht
        have hm : t ∈ [22] := by simpa using Array.mem_of_getElem? ht
        have hall : ([22].all fun u => !Tryd.prog.wantsStandIn u) = true := by kernel_rfl
        exact (show Tryd.prog.wantsStandIn t = false by simpa using List.all_eq_true.1 hall t hm)⟩)
    (by kernel_rfl)
end Go.Proofs.YtchikbfmbfoaoaaDoor.stripRows
namespace Go.Proofs.YtchikbfmbfoaoaaDoor
theorem stripRows_holds : Rows.StripRowsCardSaid := stripRows.card
end Go.Proofs.YtchikbfmbfoaoaaDoor
#print axioms Go.Proofs.YtchikbfmbfoaoaaDoor.stripRows_holds
