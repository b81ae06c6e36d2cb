/- Walks: each function of the program computes its plain function. -/
import Derived.Test.YtmdkdigmkcpceaaGp
set_option linter.unusedVariables false
set_option linter.unusedSimpArgs false
set_option maxHeartbeats 4000000
namespace Gp
open Go Gw Go.Proofs
theorem tile_colour_1_calls (p0 : Int)  (r : Bool) (w : World)  (hf : tile_colour_1 p0 = some r) :
    CallsR Try.prog 80 #[(.int .i64 p0)] w (fun v w' => v = (.bool r) ∧ Keeps NoS w w') := by
  have hS : St NoS w w [] [] := St.init (ro_nil _ _)
  refine enter 9 Try.func80 rfl Try.ntmps80 rfl ?_
  unfold tile_colour_1 at hf
  refine WC.seq ?_
  refine WC.region ?_
  refine seg 1 [] [0] [(0, (.int .i64 p0))] [] (fun fb => by kernel_rfl) rfl trivial ?_
  refine WL.done rfl ?_
  refine WX.next ?_
  refine WC.seq ?_
  refine WC.region ?_
  refine seg 3 [] [0, 5] [(0, (.int .i64 p0)), (5, (.bool (decide (p0 < 0))))] [] (fun fb => by kernel_rfl) rfl trivial ?_
  refine WL.cutV (T := Bool) 6 (fun t => [(8, (.bool t))]) (fun t => ((decide (p0 < 0)) || (decide (p0 ≥ 1000))) = t) (fun K => ?_) ?_
  ·
    rcases Bool.eq_false_or_eq_true (decide (p0 < 0)) with h38 | h38
    ·
      refine WL.setB 5 h38 rfl ?_
      refine seg 6 [] [8] [(8, (.bool true))] [] (fun fb => by kernel_rfl) rfl trivial ?_
      exact WL.toV K true [8] rfl (by first | (rw [h38]; done) | (rw [h38]; rfl))
    refine WL.setB 5 h38 rfl ?_
    refine seg 6 [] [8] [(8, (.bool (decide (p0 ≥ 1000))))] [] (fun fb => by kernel_rfl) rfl trivial ?_
    exact WL.toV K (decide (p0 ≥ 1000)) [8] rfl (by first | (rw [h38]; done) | (rw [h38]; rfl))
  rintro b39 rfl
  refine seg 7 [] [2] [(2, (.bool ((decide (p0 < 0)) || (decide (p0 ≥ 1000)))))] [] (fun fb => by kernel_rfl) rfl trivial ?_
  refine WL.done rfl ?_
  refine WX.next ?_
  refine WC.ret ?_
  injection hf with hf
  subst hf
  exact WX.ret_ [] (.bool ((decide (p0 < 0)) || (decide (p0 ≥ 1000)))) [] (fun fb => by kernel_rfl) trivial ⟨_, rfl, rfl, hS.keep⟩
theorem slices_IndexFunc_int_int_with_tile_colour_1_calls (k : Nat) (p0 : List Int) (A_p0 : Option Addr) (c_p0 : Nat) (r : Int) (w : World) (hR0 : RO NoS w (rowR encInt A_p0 c_p0 p0)) (hf : slices_IndexFunc_int_int_with_tile_colour_1 k p0 = some r) :
    CallsR Try.prog 81 #[(.slice A_p0 p0.length c_p0), (.func (.func 80) #[] #[])] w (fun v w' => v = (.int .i64 r) ∧ Keeps NoS w w') := by
  have hS : St NoS w w [rowR encInt A_p0 c_p0 p0] [] := St.init (ro_cons hR0 (ro_nil _ _))
  refine enter 19 Try.func81 rfl Try.ntmps81 rfl ?_
  unfold slices_IndexFunc_int_int_with_tile_colour_1 at hf
  refine WC.seq ?_
  refine WC.region ?_
  refine seg 1 [] [0, 1] [(0, (.slice A_p0 p0.length c_p0)), (1, (.func (.func 80) #[] #[]))] [] (fun fb => by kernel_rfl) rfl trivial ?_
  refine WL.done rfl ?_
  refine WX.next ?_
  refine WC.seq ?_
  refine WC.seq ?_
  refine WC.region ?_
  refine seg 3 [] [0, 1, 7, 8] [(0, (.slice A_p0 p0.length c_p0)), (1, (.func (.func 80) #[] #[])), (7, (.int .i64 (p0.length : Int))), (8, (.int .i64 0))] [] (fun fb => by kernel_rfl) rfl trivial ?_
  refine WL.done rfl ?_
  refine WX.next ?_
  obtain ⟨x56, hx57, hf⟩ := bind_some hf
  refine WC.cutN (T := Unit) (fun t => []) (fun t w1 => St NoS w w1 [rowR encInt A_p0 c_p0 p0] [] ∧ x56 = .inr t) (fun Kx56 => ?_) ?_
  ·
    refine WC.block ?_
    refine WC.loop (T := Int) (fun t => [(0, (.slice A_p0 p0.length c_p0)), (1, (.func (.func 80) #[] #[])), (7, (.int .i64 (p0.length : Int))), (8, (.int .i64 t))]) (fun n t w1 => St NoS w w1 [rowR encInt A_p0 c_p0 p0] [] ∧ slices_IndexFunc_int_int_with_tile_colour_1.l0 n t p0 = some x56) k 0 [0, 1, 7, 8] rfl ⟨(hS.subR [0]).sub [] (by decide), hx57⟩ ?_
    rintro k58 x55 w59 ⟨hS60, hl61⟩
    cases k58 with
    | zero => rw [slices_IndexFunc_int_int_with_tile_colour_1.l0] at hl61; cases hl61
    | succ k58 =>
      rw [slices_IndexFunc_int_int_with_tile_colour_1.l0] at hl61
      refine WC.seq ?_
      refine WC.region ?_
      refine seg 1 [] [0, 1, 7, 8, 9] [(0, (.slice A_p0 p0.length c_p0)), (1, (.func (.func 80) #[] #[])), (7, (.int .i64 (p0.length : Int))), (8, (.int .i64 x55)), (9, (.bool (decide (x55 < (p0.length : Int)))))] [] (fun fb => by kernel_rfl) rfl trivial ?_
      refine WL.done rfl ?_
      refine WX.next ?_
      refine WC.seq ?_
      rcases br_some hl61 with ⟨h62, hl61⟩ | ⟨h62, hl61⟩
      · refine WC.condT2 (fun fb => by kernel_rfl) h62 ?_
        refine WC.skip ?_
        refine WX.next ?_
        refine WC.seq ?_
        refine WC.block ?_
        refine WC.seq ?_
        refine WC.region ?_
        refine seg 2 [] [0, 1, 5, 7, 8] [(0, (.slice A_p0 p0.length c_p0)), (1, (.func (.func 80) #[] #[])), (5, (.int .i64 x55)), (7, (.int .i64 (p0.length : Int))), (8, (.int .i64 x55))] [] (fun fb => by kernel_rfl) rfl trivial ?_
        refine WL.done rfl ?_
        refine WX.next ?_
        refine WC.seq ?_
        refine WC.region ?_
        refine seg 3 [] [0, 1, 5, 7, 8, 11, 12, 13] [(0, (.slice A_p0 p0.length c_p0)), (1, (.func (.func 80) #[] #[])), (5, (.int .i64 x55)), (7, (.int .i64 (p0.length : Int))), (8, (.int .i64 x55)), (11, (.func (.func 80) #[] #[])), (12, (.slice A_p0 p0.length c_p0)), (13, (.int .i64 x55))] [] (fun fb => by kernel_rfl) rfl trivial ?_
        obtain ⟨h63, hl61⟩ := as_some hl61
        refine seg 5 [.v (.int .i64 (rdD p0 x55 0))] [0, 1, 5, 7, 8, 11, 15] [(0, (.slice A_p0 p0.length c_p0)), (1, (.func (.func 80) #[] #[])), (5, (.int .i64 x55)), (7, (.int .i64 (p0.length : Int))), (8, (.int .i64 x55)), (11, (.func (.func 80) #[] #[])), (15, (.int .i64 (rdD p0 x55 0)))] [.idx A_p0 x55 p0.length, .cell ((adr A_p0).add ((x55).toNat * 1)) (.int .i64 (rdD p0 x55 0))] (fun fb => by kernel_rfl) rfl ⟨rowR.adr (hS60.rd 0).1 h63.1 h63.2, rowR.cell (hS60.rd 0).1 0 h63.1 h63.2 0 rfl, trivial⟩ ?_
        obtain ⟨t64, ht65, hl61⟩ := bind_some hl61
        refine WL.call (some 16) 80 #[(.int .i64 (rdD p0 x55 0))] (fun fb => by kernel_rfl) (tile_colour_1_calls (rdD p0 x55 0) t64 _ ht65) (fun v w66 hR67 => ?_)
        obtain ⟨rfl, hk_⟩ := hR67
        have hS68 := hS60.keepN hk_
        refine ⟨trivial, ?_⟩
        refine WL.done rfl ?_
        refine WX.next ?_
        rcases br_some hl61 with ⟨h69, hl61⟩ | ⟨h69, hl61⟩
        · refine WC.condT2 (fun fb => by kernel_rfl) h69 ?_
          refine WC.seq ?_
          refine WC.region ?_
          refine seg 2 [] [4] [(4, (.int .i64 x55))] [] (fun fb => by kernel_rfl) rfl trivial ?_
          refine WL.done rfl ?_
          refine WX.next ?_
          refine WC.ret ?_
          injection hl61 with hl61
          subst hl61
          injection hf with hf
          subst hf
          exact WX.blockR (WX.thenR (WX.thenR (WX.blockR (WX.thenR (WX.ret_ [] (.int .i64 x55) [] (fun fb => by kernel_rfl) trivial ⟨_, rfl, rfl, hS68.keep⟩)))))
        refine WC.condF2 (fun fb => by kernel_rfl) h69 ?_
        refine WC.skip ?_
        refine WX.blockN (WX.next ?_)
        refine WC.region ?_
        refine seg 2 [] [0, 1, 7, 8] [(0, (.slice A_p0 p0.length c_p0)), (1, (.func (.func 80) #[] #[])), (7, (.int .i64 (p0.length : Int))), (8, (.int .i64 (w64 (x55 + 1))))] [] (fun fb => by kernel_rfl) rfl trivial ?_
        refine WL.done rfl ?_
        exact WX.again k58 (Nat.lt_succ_self _) (w64 (x55 + 1)) [0, 1, 7, 8] rfl ⟨(hS68.subR [0]).sub [] (by decide), hl61⟩
      refine WC.condF2 (fun fb => by kernel_rfl) h62 ?_
      refine WC.exit ?_
      injection hl61 with hl61
      exact WX.thenX (WX.thenX (WX.blockHere (WX.to Kx56 () [] rfl ⟨(hS60.subR [0]).sub [] (by decide), hl61.symm⟩)))
  rintro y73 w70 ⟨hS71, hq72⟩
  subst hq72
  have hf := sum_inr hf
  refine WX.next ?_
  refine WC.seq ?_
  refine WC.region ?_
  refine seg 1 [] [4] [(4, (.int .i64 (-1)))] [] (fun fb => by kernel_rfl) rfl trivial ?_
  refine WL.done rfl ?_
  refine WX.next ?_
  refine WC.ret ?_
  injection hf with hf
  subst hf
  exact WX.ret_ [] (.int .i64 (-1)) [] (fun fb => by kernel_rfl) trivial ⟨_, rfl, rfl, hS71.keep⟩
theorem slices_ContainsFunc_int_int_with_tile_colour_1_calls (k : Nat) (p0 : List Int) (A_p0 : Option Addr) (c_p0 : Nat) (r : Bool) (w : World) (hR0 : RO NoS w (rowR encInt A_p0 c_p0 p0)) (hf : slices_ContainsFunc_int_int_with_tile_colour_1 k p0 = some r) :
    CallsR Try.prog 65 #[(.slice A_p0 p0.length c_p0), (.func (.func 80) #[] #[])] w (fun v w' => v = (.bool r) ∧ Keeps NoS w w') := by
  have hS : St NoS w w [rowR encInt A_p0 c_p0 p0] [] := St.init (ro_cons hR0 (ro_nil _ _))
  refine enter 9 Try.func65 rfl Try.ntmps65 rfl ?_
  unfold slices_ContainsFunc_int_int_with_tile_colour_1 at hf
  refine WC.seq ?_
  refine WC.region ?_
  refine seg 1 [] [0, 1] [(0, (.slice A_p0 p0.length c_p0)), (1, (.func (.func 80) #[] #[]))] [] (fun fb => by kernel_rfl) rfl trivial ?_
  refine WL.done rfl ?_
  refine WX.next ?_
  refine WC.seq ?_
  refine WC.region ?_
  refine seg 2 [] [5, 6] [(5, (.slice A_p0 p0.length c_p0)), (6, (.func (.func 80) #[] #[]))] [] (fun fb => by kernel_rfl) rfl trivial ?_
  obtain ⟨t75, ht76, hf⟩ := bind_some hf
  refine WL.call (some 7) 81 #[(.slice A_p0 p0.length c_p0), (.func (.func 80) #[] #[])] (fun fb => by kernel_rfl) (slices_IndexFunc_int_int_with_tile_colour_1_calls _ p0 A_p0 c_p0 t75 _ (hS.rd 0) ht76) (fun v w77 hR78 => ?_)
  obtain ⟨rfl, hk_⟩ := hR78
  have hS79 := hS.keepN hk_
  refine ⟨trivial, ?_⟩
  refine seg 5 [] [4] [(4, (.bool (decide (t75 ≥ 0))))] [] (fun fb => by kernel_rfl) rfl trivial ?_
  refine WL.done rfl ?_
  refine WX.next ?_
  refine WC.ret ?_
  injection hf with hf
  subst hf
  exact WX.ret_ [] (.bool (decide (t75 ≥ 0))) [] (fun fb => by kernel_rfl) trivial ⟨_, rfl, rfl, hS79.keep⟩
theorem tile_colour_calls (k : Nat) (p0 : List Int) (A_p0 : Option Addr) (c_p0 : Nat) (r : Bool) (w : World) (hR0 : RO NoS w (rowR encInt A_p0 c_p0 p0)) (hf : tile_colour k p0 = some r) :
    CallsR Try.prog 59 #[(.slice A_p0 p0.length c_p0)] w (fun v w' => v = (.bool r) ∧ Keeps NoS w w') := by
  have hS : St NoS w w [rowR encInt A_p0 c_p0 p0] [] := St.init (ro_cons hR0 (ro_nil _ _))
  refine enter 6 Try.func59 rfl Try.ntmps59 rfl ?_
  unfold tile_colour at hf
  refine WC.seq ?_
  refine WC.region ?_
  refine seg 1 [] [0] [(0, (.slice A_p0 p0.length c_p0))] [] (fun fb => by kernel_rfl) rfl trivial ?_
  refine WL.done rfl ?_
  refine WX.next ?_
  refine WC.seq ?_
  refine WC.region ?_
  refine seg 1 [] [3] [(3, (.slice A_p0 p0.length c_p0))] [] (fun fb => by kernel_rfl) rfl trivial ?_
  obtain ⟨t80, ht81, hf⟩ := bind_some hf
  refine WL.call (some 4) 65 #[(.slice A_p0 p0.length c_p0), (.func (.func 80) #[] #[])] (fun fb => by kernel_rfl) (slices_ContainsFunc_int_int_with_tile_colour_1_calls _ p0 A_p0 c_p0 t80 _ (hS.rd 0) ht81) (fun v w82 hR83 => ?_)
  obtain ⟨rfl, hk_⟩ := hR83
  have hS84 := hS.keepN hk_
  refine ⟨trivial, ?_⟩
  refine seg 4 [] [2] [(2, (.bool (!t80)))] [] (fun fb => by kernel_rfl) rfl trivial ?_
  refine WL.done rfl ?_
  refine WX.next ?_
  refine WC.ret ?_
  injection hf with hf
  subst hf
  exact WX.ret_ [] (.bool (!t80)) [] (fun fb => by kernel_rfl) trivial ⟨_, rfl, rfl, hS84.keep⟩
theorem tile_Valid_key24 : KeyK Try.prog 24 (aggI ints_Tile) := KeyK.struct (n := 4) (by kernel_rfl) ints_Tile (fun _ => rfl) (fun x y h => by cases x; cases y; simp only [ints_Tile, List.cons.injEq, and_true] at h; obtain ⟨rfl, rfl, rfl, rfl⟩ := h; rfl)
theorem tile_Valid_calls (k : Nat) (p0 : List Tile) (A_p0 : Option Addr) (c_p0 : Nat) (r : Bool) (w : World) (hR0 : RO NoS w (rowR enc_Tile A_p0 c_p0 p0)) (hf : tile_Valid k p0 = some r) :
    CallsR Try.prog 38 #[(.slice A_p0 p0.length c_p0)] w (fun v w' => v = (.bool r) ∧ Keeps NoS w w') := by
  have hS : St NoS w w [rowR enc_Tile A_p0 c_p0 p0] [] := St.init (ro_cons hR0 (ro_nil _ _))
  refine enter 35 Try.func38 rfl Try.ntmps38 rfl ?_
  unfold tile_Valid at hf
  refine WC.seq ?_
  refine WC.region ?_
  refine seg 1 [] [0] [(0, (.slice A_p0 p0.length c_p0))] [] (fun fb => by kernel_rfl) rfl trivial ?_
  refine WL.done rfl ?_
  refine WX.next ?_
  refine WC.seq ?_
  refine WC.seq ?_
  refine WC.region ?_
  refine seg 3 [] [0, 8] [(0, (.slice A_p0 p0.length c_p0)), (8, (.bool (decide ((p0.length : Int) > 1000))))] [] (fun fb => by kernel_rfl) rfl trivial ?_
  refine WL.done rfl ?_
  refine WX.next ?_
  rcases br_some hf with ⟨h19, hf⟩ | ⟨h19, hf⟩
  · refine WC.condT2 (fun fb => by kernel_rfl) h19 ?_
    refine WC.seq ?_
    refine WC.region ?_
    refine seg 1 [] [2] [(2, (.bool false))] [] (fun fb => by kernel_rfl) rfl trivial ?_
    refine WL.done rfl ?_
    refine WX.next ?_
    refine WC.ret ?_
    injection hf with hf
    subst hf
    exact WX.thenR (WX.ret_ [] (.bool false) [] (fun fb => by kernel_rfl) trivial ⟨_, rfl, rfl, hS.keep⟩)
  refine WC.condF2 (fun fb => by kernel_rfl) h19 ?_
  refine WC.skip ?_
  refine WX.next ?_
  refine WC.seq ?_
  refine WC.region ?_
  refine WL.new hS 9 [] (fun g => (.map (some g))) (mapObj (aggI ints_Tile) vB ([] : List (Tile × Bool))) [] (fun fb g => by kernel_rfl) trivial (fun g20 w21 hS22 => ?_)
  refine ⟨trivial, ?_⟩
  refine seg 2 [] [0, 3] [(0, (.slice A_p0 p0.length c_p0)), (3, (.map (some g20)))] [] (fun fb => by kernel_rfl) rfl trivial ?_
  refine WL.done rfl ?_
  refine WX.next ?_
  refine WC.seq ?_
  refine WC.seq ?_
  refine WC.region ?_
  refine seg 3 [] [3, 10, 11, 12] [(3, (.map (some g20))), (10, (.slice A_p0 p0.length c_p0)), (11, (.int .i64 (p0.length : Int))), (12, (.int .i64 0))] [] (fun fb => by kernel_rfl) rfl trivial ?_
  refine WL.done rfl ?_
  refine WX.next ?_
  obtain ⟨x156, hx157, hf⟩ := bind_some hf
  refine WC.cutN (T := Unit) (fun t => []) (fun t w1 => St NoS w w1 [rowR enc_Tile A_p0 c_p0 p0] [] ∧ x156 = .inr t) (fun Kx156 => ?_) ?_
  ·
    refine WC.block ?_
    refine WC.loop (T := (List (Tile × Bool)) × Int) (fun t => [(3, (.map (some g20))), (10, (.slice A_p0 p0.length c_p0)), (11, (.int .i64 (p0.length : Int))), (12, (.int .i64 t.2))]) (fun n t w1 => St NoS w w1 [rowR enc_Tile A_p0 c_p0 p0] [blk g20 (mapObj (aggI ints_Tile) vB t.1)] ∧ tile_Valid.l0 n t.1 t.2 p0 = some x156) k (([] : List (Tile × Bool)), 0) [3, 10, 11, 12] rfl ⟨(hS22.subR [0]).sub [0] (by decide), hx157⟩ ?_
    rintro k158 ⟨l154, x155⟩ w159 ⟨hS160, hl161⟩
    cases k158 with
    | zero => rw [tile_Valid.l0] at hl161; cases hl161
    | succ k158 =>
      rw [tile_Valid.l0] at hl161
      refine WC.seq ?_
      refine WC.region ?_
      refine seg 1 [] [3, 10, 11, 12, 13] [(3, (.map (some g20))), (10, (.slice A_p0 p0.length c_p0)), (11, (.int .i64 (p0.length : Int))), (12, (.int .i64 x155)), (13, (.bool (decide (x155 < (p0.length : Int)))))] [] (fun fb => by kernel_rfl) rfl trivial ?_
      refine WL.done rfl ?_
      refine WX.next ?_
      refine WC.seq ?_
      rcases br_some hl161 with ⟨h162, hl161⟩ | ⟨h162, hl161⟩
      · refine WC.condT2 (fun fb => by kernel_rfl) h162 ?_
        refine WC.skip ?_
        refine WX.next ?_
        refine WC.seq ?_
        refine WC.block ?_
        refine WC.seq ?_
        refine WC.region ?_
        obtain ⟨h163, hl161⟩ := as_some hl161
        refine seg 2 [.v (.int .i64 ((rdD p0 x155 z_Tile).N)), .v (.int .i64 ((rdD p0 x155 z_Tile).E)), .v (.int .i64 ((rdD p0 x155 z_Tile).S)), .v (.int .i64 ((rdD p0 x155 z_Tile).W))] [3, 10, 11, 12, 15] [(3, (.map (some g20))), (10, (.slice A_p0 p0.length c_p0)), (11, (.int .i64 (p0.length : Int))), (12, (.int .i64 x155)), (15, (.agg #[(.int .i64 ((rdD p0 x155 z_Tile).N)), (.int .i64 ((rdD p0 x155 z_Tile).E)), (.int .i64 ((rdD p0 x155 z_Tile).S)), (.int .i64 ((rdD p0 x155 z_Tile).W))]))] [.idx A_p0 x155 p0.length, .cell ((adr A_p0).add ((x155).toNat * 4)) (.int .i64 ((rdD p0 x155 z_Tile).N)), .cell (((adr A_p0).add ((x155).toNat * 4)).add 1) (.int .i64 ((rdD p0 x155 z_Tile).E)), .cell (((adr A_p0).add ((x155).toNat * 4)).add 2) (.int .i64 ((rdD p0 x155 z_Tile).S)), .cell (((adr A_p0).add ((x155).toNat * 4)).add 3) (.int .i64 ((rdD p0 x155 z_Tile).W))] (fun fb => by kernel_rfl) rfl ⟨rowR.adr (hS160.rd 0).1 h163.1 h163.2, rowR.cell (hS160.rd 0).1 z_Tile h163.1 h163.2 0 rfl, rowR.cell (hS160.rd 0).1 z_Tile h163.1 h163.2 1 rfl, rowR.cell (hS160.rd 0).1 z_Tile h163.1 h163.2 2 rfl, rowR.cell (hS160.rd 0).1 z_Tile h163.1 h163.2 3 rfl, trivial⟩ ?_
        refine WL.new hS160 5 [] (fun g => (.pointer (some ⟨g, 0, none⟩))) (.cells #[(.int .i64 0), (.int .i64 0), (.int .i64 0), (.int .i64 0)] 24 (0, 0)) [] (fun fb g => by kernel_rfl) trivial (fun g164 w165 hS166 => ?_)
        refine ⟨trivial, ?_⟩
        refine WL.store hS166 0 rfl [(0, (.int .i64 ((rdD p0 x155 z_Tile).N))), (1, (.int .i64 ((rdD p0 x155 z_Tile).E))), (2, (.int .i64 ((rdD p0 x155 z_Tile).S))), (3, (.int .i64 ((rdD p0 x155 z_Tile).W)))] #[(.int .i64 ((rdD p0 x155 z_Tile).N)), (.int .i64 ((rdD p0 x155 z_Tile).E)), (.int .i64 ((rdD p0 x155 z_Tile).S)), (.int .i64 ((rdD p0 x155 z_Tile).W))] (fun fb => by kernel_rfl) (by kernel_rfl) rfl [1] (by decide) (by decide) (fun w168 hS169 => ?_)
        refine ⟨trivial, ?_⟩
        refine WL.done rfl ?_
        refine WX.next ?_
        refine WC.seq ?_
        refine WC.seq ?_
        refine WC.region ?_
        refine seg 2 [.v (.int .i64 ((rdD p0 x155 z_Tile).N)), .v (.int .i64 ((rdD p0 x155 z_Tile).E)), .v (.int .i64 ((rdD p0 x155 z_Tile).S)), .v (.int .i64 ((rdD p0 x155 z_Tile).W))] [3, 5, 10, 11, 12, 16, 17] [(3, (.map (some g20))), (5, (.pointer (some ⟨g164, 0, none⟩))), (10, (.slice A_p0 p0.length c_p0)), (11, (.int .i64 (p0.length : Int))), (12, (.int .i64 x155)), (16, (.map (some g20))), (17, (.agg #[(.int .i64 ((rdD p0 x155 z_Tile).N)), (.int .i64 ((rdD p0 x155 z_Tile).E)), (.int .i64 ((rdD p0 x155 z_Tile).S)), (.int .i64 ((rdD p0 x155 z_Tile).W))]))] [.cell ⟨g164, 0, none⟩ (.int .i64 ((rdD p0 x155 z_Tile).N)), .cell ⟨g164, 1, none⟩ (.int .i64 ((rdD p0 x155 z_Tile).E)), .cell ⟨g164, 2, none⟩ (.int .i64 ((rdD p0 x155 z_Tile).S)), .cell ⟨g164, 3, none⟩ (.int .i64 ((rdD p0 x155 z_Tile).W))] (fun fb => by kernel_rfl) rfl ⟨hS169.cell 0 rfl 0 rfl, hS169.cell 0 rfl 1 rfl, hS169.cell 0 rfl 2 rfl, hS169.cell 0 rfl 3 rfl, trivial⟩ ?_
        refine WL.lookup (hS169.own 1).1 (rdD p0 x155 z_Tile) (d := 18) (c := false) (t := 100) (kT := 24) (eT := 4) (z := false) (kE := (aggI ints_Tile)) (vE := vB) (l := l154) (.bool (mget (rdD p0 x155 z_Tile) false l154)) (fun fb => by kernel_rfl) tile_Valid_key24 (by kernel_rfl) (fun _ => by kernel_rfl) rfl ?_
        refine ⟨trivial, ?_⟩
        refine seg 4 [] [3, 5, 10, 11, 12, 19] [(3, (.map (some g20))), (5, (.pointer (some ⟨g164, 0, none⟩))), (10, (.slice A_p0 p0.length c_p0)), (11, (.int .i64 (p0.length : Int))), (12, (.int .i64 x155)), (19, (.bool (mget (rdD p0 x155 z_Tile) false l154)))] [] (fun fb => by kernel_rfl) rfl trivial ?_
        obtain ⟨x181, hx182, hl161⟩ := bind_some hl161
        refine WL.cutW (T := Bool) 16 (fun t => [(3, (.map (some g20))), (5, (.pointer (some ⟨g164, 0, none⟩))), (10, (.slice A_p0 p0.length c_p0)), (11, (.int .i64 (p0.length : Int))), (12, (.int .i64 x155)), (31, (.bool t))]) (fun t w1 => (St NoS w w1 [rowR enc_Tile A_p0 c_p0 p0] [blk g20 (mapObj (aggI ints_Tile) vB l154), blk g164 (.cells #[(.int .i64 ((rdD p0 x155 z_Tile).N)), (.int .i64 ((rdD p0 x155 z_Tile).E)), (.int .i64 ((rdD p0 x155 z_Tile).S)), (.int .i64 ((rdD p0 x155 z_Tile).W))] 24 (0, 0))] ∧ x181 = t) ∧ CellsOK [] w1) (fun K => ?_) ?_
        ·
          rcases br_some hx182 with ⟨h183, hx182⟩ | ⟨h183, hx182⟩
          ·
            refine WL.setB 19 h183 rfl ?_
            refine seg 16 [] [3, 5, 10, 11, 12, 31] [(3, (.map (some g20))), (5, (.pointer (some ⟨g164, 0, none⟩))), (10, (.slice A_p0 p0.length c_p0)), (11, (.int .i64 (p0.length : Int))), (12, (.int .i64 x155)), (31, (.bool true))] [] (fun fb => by kernel_rfl) rfl trivial ?_
            injection hx182 with hx182
            exact WL.to K true [3, 5, 10, 11, 12, 31] rfl ⟨⟨(hS169.subR [0]).sub [1, 0] (by decide), hx182.symm⟩, trivial⟩
          refine WL.setB 19 h183 rfl ?_
          refine seg 12 [.v (.int .i64 ((rdD p0 x155 z_Tile).N)), .v (.int .i64 ((rdD p0 x155 z_Tile).E)), .v (.int .i64 ((rdD p0 x155 z_Tile).S)), .v (.int .i64 ((rdD p0 x155 z_Tile).W))] [3, 5, 10, 11, 12, 19, 21, 23, 25, 27] [(3, (.map (some g20))), (5, (.pointer (some ⟨g164, 0, none⟩))), (10, (.slice A_p0 p0.length c_p0)), (11, (.int .i64 (p0.length : Int))), (12, (.int .i64 x155)), (19, (.bool false)), (21, (.int .i64 ((rdD p0 x155 z_Tile).N))), (23, (.int .i64 ((rdD p0 x155 z_Tile).E))), (25, (.int .i64 ((rdD p0 x155 z_Tile).S))), (27, (.int .i64 ((rdD p0 x155 z_Tile).W)))] [.cell ⟨g164, 0, none⟩ (.int .i64 ((rdD p0 x155 z_Tile).N)), .cell ⟨g164, 1, none⟩ (.int .i64 ((rdD p0 x155 z_Tile).E)), .cell ⟨g164, 2, none⟩ (.int .i64 ((rdD p0 x155 z_Tile).S)), .cell ⟨g164, 3, none⟩ (.int .i64 ((rdD p0 x155 z_Tile).W))] (fun fb => by kernel_rfl) rfl ⟨hS169.cell 0 rfl 0 rfl, hS169.cell 0 rfl 1 rfl, hS169.cell 0 rfl 2 rfl, hS169.cell 0 rfl 3 rfl, trivial⟩ ?_
          refine WL.new hS169 28 [] (fun g => (.slice (some ⟨g, 0, none⟩) 4 4)) (.cells #[(.int .i64 ((rdD p0 x155 z_Tile).N)), (.int .i64 ((rdD p0 x155 z_Tile).E)), (.int .i64 ((rdD p0 x155 z_Tile).S)), (.int .i64 ((rdD p0 x155 z_Tile).W))] 3 (0, 0)) [] (fun fb g => by kernel_rfl) trivial (fun g184 w185 hS186 => ?_)
          refine ⟨trivial, ?_⟩
          have hS188 : St NoS w w185 [rowR enc_Tile A_p0 c_p0 p0] [rowO 3 encInt (some ⟨g184, 0, none⟩) 4 [(rdD p0 x155 z_Tile).N, (rdD p0 x155 z_Tile).E, (rdD p0 x155 z_Tile).S, (rdD p0 x155 z_Tile).W], blk g164 (.cells #[(.int .i64 ((rdD p0 x155 z_Tile).N)), (.int .i64 ((rdD p0 x155 z_Tile).E)), (.int .i64 ((rdD p0 x155 z_Tile).S)), (.int .i64 ((rdD p0 x155 z_Tile).W))] 24 (0, 0)), blk g20 (mapObj (aggI ints_Tile) vB l154)] := hS186.map1 0 _ (fun h => rowO.ofBlk h rfl (Nat.le_of_ble_eq_true (by kernel_rfl))) (fun _ h => by obtain ⟨_, h1, h2⟩ := h; injection h1 with h1; subst h1; exact h2) [1, 2] (by decide) (by decide)
          obtain ⟨t189, ht190, hx182⟩ := bind_some hx182
          refine WL.call (some 29) 59 #[(.slice (some ⟨g184, 0, none⟩) [(rdD p0 x155 z_Tile).N, (rdD p0 x155 z_Tile).E, (rdD p0 x155 z_Tile).S, (rdD p0 x155 z_Tile).W].length 4)] (fun fb => by kernel_rfl) (tile_colour_calls _ [(rdD p0 x155 z_Tile).N, (rdD p0 x155 z_Tile).E, (rdD p0 x155 z_Tile).S, (rdD p0 x155 z_Tile).W] (some ⟨g184, 0, none⟩) 4 t189 _ (hS188.ow 0).ofO ht190) (fun v w191 hR192 => ?_)
          obtain ⟨rfl, hk_⟩ := hR192
          have hS193 := hS188.keepN hk_
          refine ⟨trivial, ?_⟩
          refine seg 16 [] [3, 5, 10, 11, 12, 31] [(3, (.map (some g20))), (5, (.pointer (some ⟨g164, 0, none⟩))), (10, (.slice A_p0 p0.length c_p0)), (11, (.int .i64 (p0.length : Int))), (12, (.int .i64 x155)), (31, (.bool (!t189)))] [] (fun fb => by kernel_rfl) rfl trivial ?_
          injection hx182 with hx182
          exact WL.to K (!t189) [3, 5, 10, 11, 12, 31] rfl ⟨⟨(hS193.subR [0]).sub [2, 1] (by decide), hx182.symm⟩, trivial⟩
        rintro y194 w196 ⟨⟨hS197, hq195⟩, hF198⟩
        subst hq195
        refine WL.done rfl ?_
        refine WX.next ?_
        rcases br_some hl161 with ⟨h199, hl161⟩ | ⟨h199, hl161⟩
        · refine WC.condT2 (fun fb => by kernel_rfl) h199 ?_
          refine WC.seq ?_
          refine WC.region ?_
          refine seg 1 [] [2] [(2, (.bool false))] [] (fun fb => by kernel_rfl) rfl trivial ?_
          refine WL.done rfl ?_
          refine WX.next ?_
          refine WC.ret ?_
          injection hl161 with hl161
          subst hl161
          injection hf with hf
          subst hf
          exact WX.thenR (WX.blockR (WX.thenR (WX.thenR (WX.blockR (WX.thenR (WX.ret_ [] (.bool false) [] (fun fb => by kernel_rfl) trivial ⟨_, rfl, rfl, hS197.keep⟩))))))
        refine WC.condF2 (fun fb => by kernel_rfl) h199 ?_
        refine WC.skip ?_
        refine WX.next ?_
        refine WC.region ?_
        refine seg 2 [.v (.int .i64 ((rdD p0 x155 z_Tile).N)), .v (.int .i64 ((rdD p0 x155 z_Tile).E)), .v (.int .i64 ((rdD p0 x155 z_Tile).S)), .v (.int .i64 ((rdD p0 x155 z_Tile).W))] [3, 10, 11, 12, 32, 33] [(3, (.map (some g20))), (10, (.slice A_p0 p0.length c_p0)), (11, (.int .i64 (p0.length : Int))), (12, (.int .i64 x155)), (32, (.map (some g20))), (33, (.agg #[(.int .i64 ((rdD p0 x155 z_Tile).N)), (.int .i64 ((rdD p0 x155 z_Tile).E)), (.int .i64 ((rdD p0 x155 z_Tile).S)), (.int .i64 ((rdD p0 x155 z_Tile).W))]))] [.cell ⟨g164, 0, none⟩ (.int .i64 ((rdD p0 x155 z_Tile).N)), .cell ⟨g164, 1, none⟩ (.int .i64 ((rdD p0 x155 z_Tile).E)), .cell ⟨g164, 2, none⟩ (.int .i64 ((rdD p0 x155 z_Tile).S)), .cell ⟨g164, 3, none⟩ (.int .i64 ((rdD p0 x155 z_Tile).W))] (fun fb => by kernel_rfl) rfl ⟨hS197.cell 1 rfl 0 rfl, hS197.cell 1 rfl 1 rfl, hS197.cell 1 rfl 2 rfl, hS197.cell 1 rfl 3 rfl, trivial⟩ ?_
        refine WL.mapput hS197 0 (t := 100) (kT := 24) (eT := 4) (kE := (aggI ints_Tile)) (vE := vB) (l := l154) rfl (rdD p0 x155 z_Tile) true (fun fb => by kernel_rfl) tile_Valid_key24 (by kernel_rfl) [1] (by decide) (by decide) (fun w200 hS201 => ?_)
        refine ⟨trivial, ?_⟩
        refine WL.done rfl ?_
        refine WX.blockN (WX.next ?_)
        refine WC.region ?_
        refine seg 2 [] [3, 10, 11, 12] [(3, (.map (some g20))), (10, (.slice A_p0 p0.length c_p0)), (11, (.int .i64 (p0.length : Int))), (12, (.int .i64 (w64 (x155 + 1))))] [] (fun fb => by kernel_rfl) rfl trivial ?_
        refine WL.done rfl ?_
        exact WX.again k158 (Nat.lt_succ_self _) (mput (rdD p0 x155 z_Tile) true l154, w64 (x155 + 1)) [3, 10, 11, 12] rfl ⟨(hS201.subR [0]).sub [0] (by decide), hl161⟩
      refine WC.condF2 (fun fb => by kernel_rfl) h162 ?_
      refine WC.exit ?_
      injection hl161 with hl161
      exact WX.thenX (WX.thenX (WX.blockHere (WX.to Kx156 () [] rfl ⟨(hS160.subR [0]).sub [] (by decide), hl161.symm⟩)))
  rintro y205 w202 ⟨hS203, hq204⟩
  subst hq204
  have hf := sum_inr hf
  refine WX.next ?_
  refine WC.seq ?_
  refine WC.region ?_
  refine seg 1 [] [2] [(2, (.bool true))] [] (fun fb => by kernel_rfl) rfl trivial ?_
  refine WL.done rfl ?_
  refine WX.next ?_
  refine WC.ret ?_
  injection hf with hf
  subst hf
  exact WX.ret_ [] (.bool true) [] (fun fb => by kernel_rfl) trivial ⟨_, rfl, rfl, hS203.keep⟩
theorem decide_asks_calls (k : Nat) (p0 : List Tile) (A_p0 : Option Addr) (c_p0 : Nat) (r : Int) (w : World) (hR0 : RO NoS w (rowR enc_Tile A_p0 c_p0 p0)) (hf : decide_asks k p0 = some r) :
    CallsR Try.prog 43 #[(.slice A_p0 p0.length c_p0)] w (fun v w' => v = (.int .i64 r) ∧ Keeps NoS w w') := by
  have hS : St NoS w w [rowR enc_Tile A_p0 c_p0 p0] [] := St.init (ro_cons hR0 (ro_nil _ _))
  refine enter 11 Try.func43 rfl Try.ntmps43 rfl ?_
  unfold decide_asks at hf
  refine WC.seq ?_
  refine WC.region ?_
  refine seg 1 [] [0] [(0, (.slice A_p0 p0.length c_p0))] [] (fun fb => by kernel_rfl) rfl trivial ?_
  refine WL.done rfl ?_
  refine WX.next ?_
  refine WC.seq ?_
  refine WC.block ?_
  refine WC.seq ?_
  refine WC.region ?_
  refine seg 1 [] [0, 4] [(0, (.slice A_p0 p0.length c_p0)), (4, (.slice A_p0 p0.length c_p0))] [] (fun fb => by kernel_rfl) rfl trivial ?_
  obtain ⟨t207, ht208, hf⟩ := bind_some hf
  refine WL.call (some 5) 38 #[(.slice A_p0 p0.length c_p0)] (fun fb => by kernel_rfl) (tile_Valid_calls _ p0 A_p0 c_p0 t207 _ (hS.rd 0) ht208) (fun v w209 hR210 => ?_)
  obtain ⟨rfl, hk_⟩ := hR210
  have hS211 := hS.keepN hk_
  refine ⟨trivial, ?_⟩
  refine seg 4 [] [0, 3] [(0, (.slice A_p0 p0.length c_p0)), (3, (.bool (!t207)))] [] (fun fb => by kernel_rfl) rfl trivial ?_
  refine WL.done rfl ?_
  refine WX.next ?_
  rcases br_some hf with ⟨h212, hf⟩ | ⟨h212, hf⟩
  · refine WC.condT2 (fun fb => by kernel_rfl) h212 ?_
    refine WC.seq ?_
    refine WC.region ?_
    refine seg 1 [] [2] [(2, (.int .i64 1))] [] (fun fb => by kernel_rfl) rfl trivial ?_
    refine WL.done rfl ?_
    refine WX.next ?_
    refine WC.ret ?_
    injection hf with hf
    subst hf
    exact WX.blockR (WX.thenR (WX.ret_ [] (.int .i64 1) [] (fun fb => by kernel_rfl) trivial ⟨_, rfl, rfl, hS211.keep⟩))
  refine WC.condF2 (fun fb => by kernel_rfl) h212 ?_
  refine WC.seq ?_
  refine WC.region ?_
  refine seg 4 [] [7] [(7, (.bool (decide ((p0.length : Int) > 3))))] [] (fun fb => by kernel_rfl) rfl trivial ?_
  refine WL.done rfl ?_
  refine WX.next ?_
  rcases br_some hf with ⟨h213, hf⟩ | ⟨h213, hf⟩
  · refine WC.condT2 (fun fb => by kernel_rfl) h213 ?_
    refine WC.seq ?_
    refine WC.region ?_
    refine seg 1 [] [2] [(2, (.int .i64 2))] [] (fun fb => by kernel_rfl) rfl trivial ?_
    refine WL.done rfl ?_
    refine WX.next ?_
    refine WC.ret ?_
    injection hf with hf
    subst hf
    exact WX.blockR (WX.thenR (WX.ret_ [] (.int .i64 2) [] (fun fb => by kernel_rfl) trivial ⟨_, rfl, rfl, hS211.keep⟩))
  refine WC.condF2 (fun fb => by kernel_rfl) h213 ?_
  refine WC.skip ?_
  refine WX.blockN (WX.next ?_)
  refine WC.seq ?_
  refine WC.region ?_
  refine seg 1 [] [2] [(2, (.int .i64 0))] [] (fun fb => by kernel_rfl) rfl trivial ?_
  refine WL.done rfl ?_
  refine WX.next ?_
  refine WC.ret ?_
  injection hf with hf
  subst hf
  exact WX.ret_ [] (.int .i64 0) [] (fun fb => by kernel_rfl) trivial ⟨_, rfl, rfl, hS211.keep⟩
theorem decide_sides_calls (p0 : List Tile) (A_p0 : Option Addr) (c_p0 : Nat) (r : Unit) (w : World) (hR0 : RO NoS w (rowR enc_Tile A_p0 c_p0 p0)) (hf : decide_sides p0 = some r) :
    CallsR Try.prog 44 #[(.slice A_p0 p0.length c_p0)] w (fun v w' => ∃ (g1_ : Nat), v = (.func (.func 61) #[] #[(.pointer (some ⟨g1_, 0, none⟩))]) ∧ St NoS w w' [] [blk g1_ (.cells #[(.slice A_p0 p0.length c_p0)] 22 (0, 0))]) := by
  have hS : St NoS w w [rowR enc_Tile A_p0 c_p0 p0] [] := St.init (ro_cons hR0 (ro_nil _ _))
  refine enter 4 Try.func44 rfl Try.ntmps44 rfl ?_
  unfold decide_sides at hf
  refine WC.seq ?_
  refine WC.region ?_
  refine WL.new hS 1 [] (fun g => (.pointer (some ⟨g, 0, none⟩))) (.cells #[(.slice A_p0 p0.length c_p0)] 22 (0, 0)) [] (fun fb g => by kernel_rfl) trivial (fun g225 w226 hS227 => ?_)
  refine ⟨trivial, ?_⟩
  refine seg 2 [] [1] [(1, (.pointer (some ⟨g225, 0, none⟩)))] [] (fun fb => by kernel_rfl) rfl trivial ?_
  refine WL.done rfl ?_
  refine WX.next ?_
  refine WC.seq ?_
  refine WC.region ?_
  refine seg 2 [] [2] [(2, (.func (.func 61) #[] #[(.pointer (some ⟨g225, 0, none⟩))]))] [] (fun fb => by kernel_rfl) rfl trivial ?_
  refine WL.done rfl ?_
  refine WX.next ?_
  refine WC.ret ?_
  injection hf with hf
  subst hf
  exact WX.ret_ [] (.func (.func 61) #[] #[(.pointer (some ⟨g225, 0, none⟩))]) [] (fun fb => by kernel_rfl) trivial ⟨_, rfl, g225, rfl, (hS227.sub [0] (by decide)).noR⟩
theorem rows_Few_calls (k : Nat) (p0 : List Tile) (p1 : Int) (A_p0 : Option Addr) (c_p0 : Nat) (r : Bool) (w : World) (hR0 : RO NoS w (rowR enc_Tile A_p0 c_p0 p0)) (hf : rows_Few k p0 p1 = some r) :
    CallsR Try.prog 45 #[(.slice A_p0 p0.length c_p0), (.int .i64 p1)] w (fun v w' => v = (.bool r) ∧ Keeps NoS w w') := by
  have hS : St NoS w w [rowR enc_Tile A_p0 c_p0 p0] [] := St.init (ro_cons hR0 (ro_nil _ _))
  refine enter 17 Try.func45 rfl Try.ntmps45 rfl ?_
  unfold rows_Few at hf
  refine WC.seq ?_
  refine WC.region ?_
  refine seg 1 [] [0, 1] [(0, (.slice A_p0 p0.length c_p0)), (1, (.int .i64 p1))] [] (fun fb => by kernel_rfl) rfl trivial ?_
  refine WL.done rfl ?_
  refine WX.next ?_
  refine WC.seq ?_
  refine WC.region ?_
  refine seg 1 [] [0, 1, 5] [(0, (.slice A_p0 p0.length c_p0)), (1, (.int .i64 p1)), (5, (.int .i64 1))] [] (fun fb => by kernel_rfl) rfl trivial ?_
  refine WL.done rfl ?_
  refine WX.next ?_
  refine WC.seq ?_
  refine WC.seq ?_
  refine WC.region ?_
  refine seg 2 [] [0, 5, 6, 7] [(0, (.slice A_p0 p0.length c_p0)), (5, (.int .i64 1)), (6, (.int .i64 p1)), (7, (.int .i64 0))] [] (fun fb => by kernel_rfl) rfl trivial ?_
  refine WL.done rfl ?_
  refine WX.next ?_
  obtain ⟨x300, hx301, hf⟩ := bind_some hf
  refine WC.cutN (T := Unit) (fun t => []) (fun t w1 => St NoS w w1 [rowR enc_Tile A_p0 c_p0 p0] [] ∧ x300 = .inr t) (fun Kx300 => ?_) ?_
  ·
    refine WC.block ?_
    refine WC.loop (T := Int × Int) (fun t => [(0, (.slice A_p0 p0.length c_p0)), (5, (.int .i64 t.1)), (6, (.int .i64 p1)), (7, (.int .i64 t.2))]) (fun n t w1 => St NoS w w1 [rowR enc_Tile A_p0 c_p0 p0] [] ∧ rows_Few.l0 n t.1 t.2 p0 p1 = some x300) k (1, 0) [0, 5, 6, 7] rfl ⟨(hS.subR [0]).sub [] (by decide), hx301⟩ ?_
    rintro k302 ⟨x298, x299⟩ w303 ⟨hS304, hl305⟩
    cases k302 with
    | zero => rw [rows_Few.l0] at hl305; cases hl305
    | succ k302 =>
      rw [rows_Few.l0] at hl305
      refine WC.seq ?_
      refine WC.region ?_
      refine seg 1 [] [0, 5, 6, 7, 8] [(0, (.slice A_p0 p0.length c_p0)), (5, (.int .i64 x298)), (6, (.int .i64 p1)), (7, (.int .i64 x299)), (8, (.bool (decide (x299 < p1))))] [] (fun fb => by kernel_rfl) rfl trivial ?_
      refine WL.done rfl ?_
      refine WX.next ?_
      refine WC.seq ?_
      rcases br_some hl305 with ⟨h306, hl305⟩ | ⟨h306, hl305⟩
      · refine WC.condT2 (fun fb => by kernel_rfl) h306 ?_
        refine WC.skip ?_
        refine WX.next ?_
        refine WC.seq ?_
        refine WC.block ?_
        refine WC.seq ?_
        refine WC.region ?_
        refine seg 6 [] [0, 5, 6, 7] [(0, (.slice A_p0 p0.length c_p0)), (5, (.int .i64 (w64 (x298 * (maxI (p0.length : Int) 1))))), (6, (.int .i64 p1)), (7, (.int .i64 x299))] [] (fun fb => by kernel_rfl) rfl trivial ?_
        refine WL.done rfl ?_
        refine WX.next ?_
        refine WC.seq ?_
        refine WC.region ?_
        refine seg 2 [] [0, 5, 6, 7, 15] [(0, (.slice A_p0 p0.length c_p0)), (5, (.int .i64 (w64 (x298 * (maxI (p0.length : Int) 1))))), (6, (.int .i64 p1)), (7, (.int .i64 x299)), (15, (.bool (decide (w64 (x298 * (maxI (p0.length : Int) 1)) > 5000))))] [] (fun fb => by kernel_rfl) rfl trivial ?_
        refine WL.done rfl ?_
        refine WX.next ?_
        rcases br_some hl305 with ⟨h307, hl305⟩ | ⟨h307, hl305⟩
        · refine WC.condT2 (fun fb => by kernel_rfl) h307 ?_
          refine WC.seq ?_
          refine WC.region ?_
          refine seg 1 [] [4] [(4, (.bool false))] [] (fun fb => by kernel_rfl) rfl trivial ?_
          refine WL.done rfl ?_
          refine WX.next ?_
          refine WC.ret ?_
          injection hl305 with hl305
          subst hl305
          injection hf with hf
          subst hf
          exact WX.blockR (WX.thenR (WX.thenR (WX.blockR (WX.thenR (WX.ret_ [] (.bool false) [] (fun fb => by kernel_rfl) trivial ⟨_, rfl, rfl, hS304.keep⟩)))))
        refine WC.condF2 (fun fb => by kernel_rfl) h307 ?_
        refine WC.skip ?_
        refine WX.blockN (WX.next ?_)
        refine WC.region ?_
        refine seg 2 [] [0, 5, 6, 7] [(0, (.slice A_p0 p0.length c_p0)), (5, (.int .i64 (w64 (x298 * (maxI (p0.length : Int) 1))))), (6, (.int .i64 p1)), (7, (.int .i64 (w64 (x299 + 1))))] [] (fun fb => by kernel_rfl) rfl trivial ?_
        refine WL.done rfl ?_
        exact WX.again k302 (Nat.lt_succ_self _) (w64 (x298 * (maxI (p0.length : Int) 1)), w64 (x299 + 1)) [0, 5, 6, 7] rfl ⟨(hS304.subR [0]).sub [] (by decide), hl305⟩
      refine WC.condF2 (fun fb => by kernel_rfl) h306 ?_
      refine WC.exit ?_
      injection hl305 with hl305
      exact WX.thenX (WX.thenX (WX.blockHere (WX.to Kx300 () [] rfl ⟨(hS304.subR [0]).sub [] (by decide), hl305.symm⟩)))
  rintro y311 w308 ⟨hS309, hq310⟩
  subst hq310
  have hf := sum_inr hf
  refine WX.next ?_
  refine WC.seq ?_
  refine WC.region ?_
  refine seg 1 [] [4] [(4, (.bool true))] [] (fun fb => by kernel_rfl) rfl trivial ?_
  refine WL.done rfl ?_
  refine WX.next ?_
  refine WC.ret ?_
  injection hf with hf
  subst hf
  exact WX.ret_ [] (.bool true) [] (fun fb => by kernel_rfl) trivial ⟨_, rfl, rfl, hS309.keep⟩
theorem square_check_calls (k : Nat) (p0 : List Tile) (p1 : Int) (A_p0 : Option Addr) (c_p0 : Nat) (r : Int) (w : World) (hR0 : RO NoS w (rowR enc_Tile A_p0 c_p0 p0)) (hf : square_check k p0 p1 = some r) :
    CallsR Try.prog 41 #[(.slice A_p0 p0.length c_p0), (.int .i64 p1)] w (fun v w' => v = (.int .i64 r) ∧ Keeps NoS w w') := by
  have hS : St NoS w w [rowR enc_Tile A_p0 c_p0 p0] [] := St.init (ro_cons hR0 (ro_nil _ _))
  refine enter 21 Try.func41 rfl Try.ntmps41 rfl ?_
  unfold square_check at hf
  refine WC.seq ?_
  refine WC.region ?_
  refine seg 1 [] [0, 1] [(0, (.slice A_p0 p0.length c_p0)), (1, (.int .i64 p1))] [] (fun fb => by kernel_rfl) rfl trivial ?_
  refine WL.done rfl ?_
  refine WX.next ?_
  refine WC.seq ?_
  refine WC.block ?_
  refine WC.seq ?_
  refine WC.region ?_
  refine seg 1 [] [0, 1, 6] [(0, (.slice A_p0 p0.length c_p0)), (1, (.int .i64 p1)), (6, (.slice A_p0 p0.length c_p0))] [] (fun fb => by kernel_rfl) rfl trivial ?_
  obtain ⟨t283, ht284, hf⟩ := bind_some hf
  refine WL.call (some 7) 38 #[(.slice A_p0 p0.length c_p0)] (fun fb => by kernel_rfl) (tile_Valid_calls _ p0 A_p0 c_p0 t283 _ (hS.rd 0) ht284) (fun v w285 hR286 => ?_)
  obtain ⟨rfl, hk_⟩ := hR286
  have hS287 := hS.keepN hk_
  refine ⟨trivial, ?_⟩
  refine seg 4 [] [0, 1, 5] [(0, (.slice A_p0 p0.length c_p0)), (1, (.int .i64 p1)), (5, (.bool (!t283)))] [] (fun fb => by kernel_rfl) rfl trivial ?_
  refine WL.done rfl ?_
  refine WX.next ?_
  rcases br_some hf with ⟨h288, hf⟩ | ⟨h288, hf⟩
  · refine WC.condT2 (fun fb => by kernel_rfl) h288 ?_
    refine WC.seq ?_
    refine WC.region ?_
    refine seg 1 [] [4] [(4, (.int .i64 1))] [] (fun fb => by kernel_rfl) rfl trivial ?_
    refine WL.done rfl ?_
    refine WX.next ?_
    refine WC.ret ?_
    injection hf with hf
    subst hf
    exact WX.blockR (WX.thenR (WX.ret_ [] (.int .i64 1) [] (fun fb => by kernel_rfl) trivial ⟨_, rfl, rfl, hS287.keep⟩))
  refine WC.condF2 (fun fb => by kernel_rfl) h288 ?_
  refine WC.seq ?_
  refine WC.region ?_
  refine seg 3 [] [0, 1, 12] [(0, (.slice A_p0 p0.length c_p0)), (1, (.int .i64 p1)), (12, (.bool (decide (p1 < 1))))] [] (fun fb => by kernel_rfl) rfl trivial ?_
  refine WL.cutV (T := Bool) 6 (fun t => [(15, (.bool t)), (0, (.slice A_p0 p0.length c_p0)), (1, (.int .i64 p1))]) (fun t => ((decide (p1 < 1)) || (decide (p1 > 8))) = t) (fun K => ?_) ?_
  ·
    rcases Bool.eq_false_or_eq_true (decide (p1 < 1)) with h289 | h289
    ·
      refine WL.setB 12 h289 rfl ?_
      refine seg 6 [] [0, 1, 15] [(0, (.slice A_p0 p0.length c_p0)), (1, (.int .i64 p1)), (15, (.bool true))] [] (fun fb => by kernel_rfl) rfl trivial ?_
      exact WL.toV K true [15, 0, 1] rfl (by first | (rw [h289]; done) | (rw [h289]; rfl))
    refine WL.setB 12 h289 rfl ?_
    refine seg 6 [] [0, 1, 15] [(0, (.slice A_p0 p0.length c_p0)), (1, (.int .i64 p1)), (15, (.bool (decide (p1 > 8))))] [] (fun fb => by kernel_rfl) rfl trivial ?_
    exact WL.toV K (decide (p1 > 8)) [15, 0, 1] rfl (by first | (rw [h289]; done) | (rw [h289]; rfl))
  rintro b290 rfl
  refine seg 7 [] [0, 1, 9] [(0, (.slice A_p0 p0.length c_p0)), (1, (.int .i64 p1)), (9, (.bool ((decide (p1 < 1)) || (decide (p1 > 8)))))] [] (fun fb => by kernel_rfl) rfl trivial ?_
  refine WL.done rfl ?_
  refine WX.next ?_
  rcases br_some hf with ⟨h291, hf⟩ | ⟨h291, hf⟩
  · refine WC.condT2 (fun fb => by kernel_rfl) h291 ?_
    refine WC.seq ?_
    refine WC.region ?_
    refine seg 1 [] [4] [(4, (.int .i64 2))] [] (fun fb => by kernel_rfl) rfl trivial ?_
    refine WL.done rfl ?_
    refine WX.next ?_
    refine WC.ret ?_
    injection hf with hf
    subst hf
    exact WX.blockR (WX.thenR (WX.ret_ [] (.int .i64 2) [] (fun fb => by kernel_rfl) trivial ⟨_, rfl, rfl, hS287.keep⟩))
  refine WC.condF2 (fun fb => by kernel_rfl) h291 ?_
  refine WC.seq ?_
  refine WC.region ?_
  refine seg 2 [] [17, 18] [(17, (.slice A_p0 p0.length c_p0)), (18, (.int .i64 p1))] [] (fun fb => by kernel_rfl) rfl trivial ?_
  obtain ⟨t313, ht314, hf⟩ := bind_some hf
  refine WL.call (some 19) 45 #[(.slice A_p0 p0.length c_p0), (.int .i64 p1)] (fun fb => by kernel_rfl) (rows_Few_calls _ p0 p1 A_p0 c_p0 t313 _ (hS287.rd 0) ht314) (fun v w315 hR316 => ?_)
  obtain ⟨rfl, hk_⟩ := hR316
  have hS317 := hS287.keepN hk_
  refine ⟨trivial, ?_⟩
  refine seg 5 [] [16] [(16, (.bool (!t313)))] [] (fun fb => by kernel_rfl) rfl trivial ?_
  refine WL.done rfl ?_
  refine WX.next ?_
  rcases br_some hf with ⟨h318, hf⟩ | ⟨h318, hf⟩
  · refine WC.condT2 (fun fb => by kernel_rfl) h318 ?_
    refine WC.seq ?_
    refine WC.region ?_
    refine seg 1 [] [4] [(4, (.int .i64 4))] [] (fun fb => by kernel_rfl) rfl trivial ?_
    refine WL.done rfl ?_
    refine WX.next ?_
    refine WC.ret ?_
    injection hf with hf
    subst hf
    exact WX.blockR (WX.thenR (WX.ret_ [] (.int .i64 4) [] (fun fb => by kernel_rfl) trivial ⟨_, rfl, rfl, hS317.keep⟩))
  refine WC.condF2 (fun fb => by kernel_rfl) h318 ?_
  refine WC.skip ?_
  refine WX.blockN (WX.next ?_)
  refine WC.seq ?_
  refine WC.region ?_
  refine seg 1 [] [4] [(4, (.int .i64 0))] [] (fun fb => by kernel_rfl) rfl trivial ?_
  refine WL.done rfl ?_
  refine WX.next ?_
  refine WC.ret ?_
  injection hf with hf
  subst hf
  exact WX.ret_ [] (.int .i64 0) [] (fun fb => by kernel_rfl) trivial ⟨_, rfl, rfl, hS317.keep⟩
theorem rows_rowOf_calls (k : Nat) (p0 : List Tile) (p1 : List Int) (A_p0 : Option Addr) (c_p0 : Nat) (A_p1 : Option Addr) (c_p1 : Nat) (r : Row) (w : World) (hR0 : RO NoS w (rowR enc_Tile A_p0 c_p0 p0)) (hR1 : RO NoS w (rowR encInt A_p1 c_p1 p1)) (hf : rows_rowOf k p0 p1 = some r) :
    CallsR Try.prog 83 #[(.slice A_p0 p0.length c_p0), (.slice A_p1 p1.length c_p1)] w (fun v w' => ∃ (A1_ : Option Addr), ∃ (c1_ : Nat), v = (.agg #[(.slice A1_ r.Cells.length c1_), (.int .i64 r.South.e0), (.int .i64 r.South.e1), (.int .i64 r.South.e2), (.int .i64 r.South.e3), (.int .i64 r.South.e4), (.int .i64 r.South.e5), (.int .i64 r.South.e6), (.int .i64 r.South.e7), (.int .i64 r.North.e0), (.int .i64 r.North.e1), (.int .i64 r.North.e2), (.int .i64 r.North.e3), (.int .i64 r.North.e4), (.int .i64 r.North.e5), (.int .i64 r.North.e6), (.int .i64 r.North.e7), (.int .i64 r.West), (.int .i64 r.East)]) ∧ St NoS w w' [] [rowO 3 encInt A1_ c1_ r.Cells]) := by
  have hS : St NoS w w [rowR enc_Tile A_p0 c_p0 p0, rowR encInt A_p1 c_p1 p1] [] := St.init (ro_cons hR0 (ro_cons hR1 (ro_nil _ _)))
  refine enter 55 Try.func83 rfl Try.ntmps83 rfl ?_
  unfold rows_rowOf at hf
  refine WC.seq ?_
  refine WC.region ?_
  refine WL.new hS 4 [] (fun g => (.pointer (some ⟨g, 0, none⟩))) (.cells #[(.slice none 0 0), (.int .i64 0), (.int .i64 0), (.int .i64 0), (.int .i64 0), (.int .i64 0), (.int .i64 0), (.int .i64 0), (.int .i64 0), (.int .i64 0), (.int .i64 0), (.int .i64 0), (.int .i64 0), (.int .i64 0), (.int .i64 0), (.int .i64 0), (.int .i64 0), (.int .i64 0), (.int .i64 0)] 88 (0, 0)) [] (fun fb g => by kernel_rfl) trivial (fun g437 w438 hS439 => ?_)
  refine ⟨trivial, ?_⟩
  refine WL.done rfl ?_
  refine WX.next ?_
  refine WC.seq ?_
  refine WC.region ?_
  refine seg 1 [] [0, 1, 4, 8] [(0, (.slice A_p0 p0.length c_p0)), (1, (.slice A_p1 p1.length c_p1)), (4, (.pointer (some ⟨g437, 0, none⟩))), (8, (.slice A_p1 p1.length c_p1))] [] (fun fb => by kernel_rfl) rfl trivial ?_
  have hS441 := hS439.nilrow 3 encInt
  obtain ⟨h442, hf⟩ := as_some hf
  refine WL.append hS441 0 (d := 9) (tS := 36) (z := (.int .i64 0)) (bytes := 8) (c2 := c_p1) rfl (fun fb => by kernel_rfl) (hS441.rd 1).1 (by kernel_rfl) (by kernel_rfl) rfl (by decide) h442 (by decide) [1] (by decide) (by decide) (fun A443 c444 w445 hS446 => ?_)
  refine ⟨trivial, ?_⟩
  refine seg 3 [] [0, 1, 4, 10] [(0, (.slice A_p0 p0.length c_p0)), (1, (.slice A_p1 p1.length c_p1)), (4, (.pointer (some ⟨g437, 0, none⟩))), (10, (.agg #[(.slice A443 (([] : List Int) ++ p1).length c444), (.int .i64 0), (.int .i64 0), (.int .i64 0), (.int .i64 0), (.int .i64 0), (.int .i64 0), (.int .i64 0), (.int .i64 0), (.int .i64 0), (.int .i64 0), (.int .i64 0), (.int .i64 0), (.int .i64 0), (.int .i64 0), (.int .i64 0), (.int .i64 0), (.int .i64 0), (.int .i64 0)]))] [] (fun fb => by kernel_rfl) rfl trivial ?_
  refine WL.new hS446 5 [] (fun g => (.pointer (some ⟨g, 0, none⟩))) (.cells #[(.slice none 0 0), (.int .i64 0), (.int .i64 0), (.int .i64 0), (.int .i64 0), (.int .i64 0), (.int .i64 0), (.int .i64 0), (.int .i64 0), (.int .i64 0), (.int .i64 0), (.int .i64 0), (.int .i64 0), (.int .i64 0), (.int .i64 0), (.int .i64 0), (.int .i64 0), (.int .i64 0), (.int .i64 0)] 88 (0, 0)) [] (fun fb g => by kernel_rfl) trivial (fun g447 w448 hS449 => ?_)
  refine ⟨trivial, ?_⟩
  refine WL.store hS449 0 rfl [(0, (.slice A443 (([] : List Int) ++ p1).length c444)), (1, (.int .i64 0)), (2, (.int .i64 0)), (3, (.int .i64 0)), (4, (.int .i64 0)), (5, (.int .i64 0)), (6, (.int .i64 0)), (7, (.int .i64 0)), (8, (.int .i64 0)), (9, (.int .i64 0)), (10, (.int .i64 0)), (11, (.int .i64 0)), (12, (.int .i64 0)), (13, (.int .i64 0)), (14, (.int .i64 0)), (15, (.int .i64 0)), (16, (.int .i64 0)), (17, (.int .i64 0)), (18, (.int .i64 0))] #[(.slice A443 (([] : List Int) ++ p1).length c444), (.int .i64 0), (.int .i64 0), (.int .i64 0), (.int .i64 0), (.int .i64 0), (.int .i64 0), (.int .i64 0), (.int .i64 0), (.int .i64 0), (.int .i64 0), (.int .i64 0), (.int .i64 0), (.int .i64 0), (.int .i64 0), (.int .i64 0), (.int .i64 0), (.int .i64 0), (.int .i64 0)] (fun fb => by kernel_rfl) (by kernel_rfl) (by kernel_rfl) [1, 2] (by decide) (by decide) (fun w451 hS452 => ?_)
  refine ⟨trivial, ?_⟩
  refine WL.done rfl ?_
  refine WX.next ?_
  refine WC.seq ?_
  refine WC.seq ?_
  refine WC.region ?_
  refine seg 3 [] [0, 1, 4, 5, 11, 12, 13] [(0, (.slice A_p0 p0.length c_p0)), (1, (.slice A_p1 p1.length c_p1)), (4, (.pointer (some ⟨g437, 0, none⟩))), (5, (.pointer (some ⟨g447, 0, none⟩))), (11, (.slice A_p1 p1.length c_p1)), (12, (.int .i64 (p1.length : Int))), (13, (.int .i64 0))] [] (fun fb => by kernel_rfl) rfl trivial ?_
  refine WL.done rfl ?_
  refine WX.next ?_
  obtain ⟨x531, hx532, hf⟩ := bind_some hf
  refine WC.cutN (T := A8_Int × A8_Int) (fun t => [(0, (.slice A_p0 p0.length c_p0)), (1, (.slice A_p1 p1.length c_p1)), (4, (.pointer (some ⟨g437, 0, none⟩))), (5, (.pointer (some ⟨g447, 0, none⟩)))]) (fun t w1 => St NoS w w1 [rowR enc_Tile A_p0 c_p0 p0, rowR encInt A_p1 c_p1 p1] [blk g437 (.cells #[(.slice none 0 0), (.int .i64 0), (.int .i64 0), (.int .i64 0), (.int .i64 0), (.int .i64 0), (.int .i64 0), (.int .i64 0), (.int .i64 0), (.int .i64 0), (.int .i64 0), (.int .i64 0), (.int .i64 0), (.int .i64 0), (.int .i64 0), (.int .i64 0), (.int .i64 0), (.int .i64 0), (.int .i64 0)] 88 (0, 0)), blk g447 (.cells #[(.slice A443 (([] : List Int) ++ p1).length c444), (.int .i64 t.1.e0), (.int .i64 t.1.e1), (.int .i64 t.1.e2), (.int .i64 t.1.e3), (.int .i64 t.1.e4), (.int .i64 t.1.e5), (.int .i64 t.1.e6), (.int .i64 t.1.e7), (.int .i64 t.2.e0), (.int .i64 t.2.e1), (.int .i64 t.2.e2), (.int .i64 t.2.e3), (.int .i64 t.2.e4), (.int .i64 t.2.e5), (.int .i64 t.2.e6), (.int .i64 t.2.e7), (.int .i64 0), (.int .i64 0)] 88 (0, 0)), rowO 3 encInt A443 c444 (([] : List Int) ++ p1)] ∧ x531 = t) (fun Kx531 => ?_) ?_
  ·
    refine WC.block ?_
    refine WC.loop (T := A8_Int × A8_Int × Int) (fun t => [(0, (.slice A_p0 p0.length c_p0)), (1, (.slice A_p1 p1.length c_p1)), (4, (.pointer (some ⟨g437, 0, none⟩))), (5, (.pointer (some ⟨g447, 0, none⟩))), (11, (.slice A_p1 p1.length c_p1)), (12, (.int .i64 (p1.length : Int))), (13, (.int .i64 t.2.2))]) (fun n t w1 => St NoS w w1 [rowR enc_Tile A_p0 c_p0 p0, rowR encInt A_p1 c_p1 p1] [blk g437 (.cells #[(.slice none 0 0), (.int .i64 0), (.int .i64 0), (.int .i64 0), (.int .i64 0), (.int .i64 0), (.int .i64 0), (.int .i64 0), (.int .i64 0), (.int .i64 0), (.int .i64 0), (.int .i64 0), (.int .i64 0), (.int .i64 0), (.int .i64 0), (.int .i64 0), (.int .i64 0), (.int .i64 0), (.int .i64 0)] 88 (0, 0)), blk g447 (.cells #[(.slice A443 (([] : List Int) ++ p1).length c444), (.int .i64 t.1.e0), (.int .i64 t.1.e1), (.int .i64 t.1.e2), (.int .i64 t.1.e3), (.int .i64 t.1.e4), (.int .i64 t.1.e5), (.int .i64 t.1.e6), (.int .i64 t.1.e7), (.int .i64 t.2.1.e0), (.int .i64 t.2.1.e1), (.int .i64 t.2.1.e2), (.int .i64 t.2.1.e3), (.int .i64 t.2.1.e4), (.int .i64 t.2.1.e5), (.int .i64 t.2.1.e6), (.int .i64 t.2.1.e7), (.int .i64 0), (.int .i64 0)] 88 (0, 0)), rowO 3 encInt A443 c444 (([] : List Int) ++ p1)] ∧ rows_rowOf.l0 n t.1 t.2.1 t.2.2 p0 p1 = some x531) k ((A8_Int.mk 0 0 0 0 0 0 0 0), (A8_Int.mk 0 0 0 0 0 0 0 0), 0) [0, 1, 4, 5, 11, 12, 13] rfl ⟨(hS452.subR [0, 1]).sub [2, 0, 1] (by decide), hx532⟩ ?_
    rintro k533 ⟨a526, a527, x528⟩ w534 ⟨hS535, hl536⟩
    cases k533 with
    | zero => rw [rows_rowOf.l0] at hl536; cases hl536
    | succ k533 =>
      rw [rows_rowOf.l0] at hl536
      refine WC.seq ?_
      refine WC.region ?_
      refine seg 1 [] [0, 1, 4, 5, 11, 12, 13, 14] [(0, (.slice A_p0 p0.length c_p0)), (1, (.slice A_p1 p1.length c_p1)), (4, (.pointer (some ⟨g437, 0, none⟩))), (5, (.pointer (some ⟨g447, 0, none⟩))), (11, (.slice A_p1 p1.length c_p1)), (12, (.int .i64 (p1.length : Int))), (13, (.int .i64 x528)), (14, (.bool (decide (x528 < (p1.length : Int)))))] [] (fun fb => by kernel_rfl) rfl trivial ?_
      refine WL.done rfl ?_
      refine WX.next ?_
      refine WC.seq ?_
      rcases br_some hl536 with ⟨h537, hl536⟩ | ⟨h537, hl536⟩
      · refine WC.condT2 (fun fb => by kernel_rfl) h537 ?_
        refine WC.skip ?_
        refine WX.next ?_
        refine WC.seq ?_
        refine WC.block ?_
        refine WC.seq ?_
        refine WC.region ?_
        refine seg 1 [] [0, 1, 4, 5, 11, 12, 13, 15] [(0, (.slice A_p0 p0.length c_p0)), (1, (.slice A_p1 p1.length c_p1)), (4, (.pointer (some ⟨g437, 0, none⟩))), (5, (.pointer (some ⟨g447, 0, none⟩))), (11, (.slice A_p1 p1.length c_p1)), (12, (.int .i64 (p1.length : Int))), (13, (.int .i64 x528)), (15, (.int .i64 x528))] [] (fun fb => by kernel_rfl) rfl trivial ?_
        obtain ⟨h538, hl536⟩ := as_some hl536
        refine seg 5 [.v (.int .i64 (rdD p1 x528 0))] [0, 1, 4, 5, 6, 7, 11, 12, 13] [(0, (.slice A_p0 p0.length c_p0)), (1, (.slice A_p1 p1.length c_p1)), (4, (.pointer (some ⟨g437, 0, none⟩))), (5, (.pointer (some ⟨g447, 0, none⟩))), (6, (.int .i64 x528)), (7, (.int .i64 (rdD p1 x528 0))), (11, (.slice A_p1 p1.length c_p1)), (12, (.int .i64 (p1.length : Int))), (13, (.int .i64 x528))] [.idx A_p1 x528 p1.length, .cell ((adr A_p1).add ((x528).toNat * 1)) (.int .i64 (rdD p1 x528 0))] (fun fb => by kernel_rfl) rfl ⟨rowR.adr (hS535.rd 1).1 h538.1 h538.2, rowR.cell (hS535.rd 1).1 0 h538.1 h538.2 0 rfl, trivial⟩ ?_
        refine WL.done rfl ?_
        refine WX.next ?_
        obtain ⟨h553, hl536⟩ := as_some hl536
        obtain ⟨h554, hl536⟩ := as_some hl536
        refine WC.regionD ([(6, (((adr A_p0).add (((rdD p1 x528 0)).toNat * 4)).add 2), (.int .i64 ((rdD p0 (rdD p1 x528 0) z_Tile).S))), (11, ((adr A_p0).add (((rdD p1 x528 0)).toNat * 4)), (.int .i64 ((rdD p0 (rdD p1 x528 0) z_Tile).N)))], [0, 1, 2, 3, 4, 5, 6, 7, 8, 9, 10, 11, 12, 13, 15, 16], [[], [], [], [], [2, 3], [2, 3, 4], [2, 3, 4, 5], [], [], [7, 8], [7, 8, 9], [7, 8, 9, 10], [], [0, 2, 3, 4, 5, 6, 12], [0, 2, 3, 4, 5, 6, 12, 13], [], [0, 1, 2, 3, 4, 5, 6, 7, 8, 9, 10, 11, 12, 13, 14, 15], [0, 1, 2, 3, 4, 5, 6, 7, 8, 9, 10, 11, 12, 13, 14, 15, 16]]) [[0, 1, 2, 3, 4, 5, 6, 7, 8, 9, 10, 11, 12, 13, 15, 14, 16, 17]] (by kernel_rfl) (by kernel_rfl) (NoPanic.block (NoPanic.seq (NoPanic.seq (NoPanic.block (NoPanic.seq (NoPanic.body)))))) ?_
        have hS550 := hS535.drew
        revert hS550
        generalize World.drew w534 = w549
        intro hS550
        refine ⟨⟨rowR.cell (hS550.rd 0).1 z_Tile h553.1 h553.2 2 rfl, rowR.cell (hS550.rd 0).1 z_Tile h553.1 h553.2 0 rfl, trivial⟩, forallC ?_ (forallN)⟩
        refine segF 15 [.v (.int .i64 ((rdD p0 (rdD p1 x528 0) z_Tile).S)), .v (.int .i64 ((rdD p0 (rdD p1 x528 0) z_Tile).N))] [0, 1, 4, 5, 11, 12, 13, 19, 24, 29, 31, 32] [(0, (.slice A_p0 p0.length c_p0)), (1, (.slice A_p1 p1.length c_p1)), (4, (.pointer (some ⟨g437, 0, none⟩))), (5, (.pointer (some ⟨g447, 0, none⟩))), (11, (.slice A_p1 p1.length c_p1)), (12, (.int .i64 (p1.length : Int))), (13, (.int .i64 x528)), (19, (.int .i64 x528)), (24, (.int .i64 ((rdD p0 (rdD p1 x528 0) z_Tile).S))), (29, (.int .i64 ((rdD p0 (rdD p1 x528 0) z_Tile).N))), (31, (.pointer (some (flatA ⟨g447, 1, none⟩ (x528.toNat * 1))))), (32, (.pointer (some ⟨g447, 9, none⟩)))] [.idx A_p0 (rdD p1 x528 0) p0.length, .idx A_p0 (rdD p1 x528 0) p0.length, .idx (some ⟨0, 0, none⟩) x528 8] [0, 1] [(6, (((adr A_p0).add (((rdD p1 x528 0)).toNat * 4)).add 2), (.int .i64 ((rdD p0 (rdD p1 x528 0) z_Tile).S))), (11, ((adr A_p0).add (((rdD p1 x528 0)).toNat * 4)), (.int .i64 ((rdD p0 (rdD p1 x528 0) z_Tile).N)))] (fun fb => by kernel_rfl) rfl ⟨rowR.adr (hS550.rd 0).1 h553.1 h553.2, rowR.adr (hS550.rd 0).1 h553.1 h553.2, ⟨h554.1, h554.2, rfl⟩, trivial⟩ rfl ?_
        have h557 := (cases8 (Q := fun z_ => (([(1 + z_.toNat * 1, (.int .i64 ((rdD p0 (rdD p1 x528 0) z_Tile).S)))] : List (Nat × Value)).all fun p_ => Nat.blt p_.1 (#[(.slice A443 (([] : List Int) ++ p1).length c444), (.int .i64 a526.e0), (.int .i64 a526.e1), (.int .i64 a526.e2), (.int .i64 a526.e3), (.int .i64 a526.e4), (.int .i64 a526.e5), (.int .i64 a526.e6), (.int .i64 a526.e7), (.int .i64 a527.e0), (.int .i64 a527.e1), (.int .i64 a527.e2), (.int .i64 a527.e3), (.int .i64 a527.e4), (.int .i64 a527.e5), (.int .i64 a527.e6), (.int .i64 a527.e7), (.int .i64 0), (.int .i64 0)] : Array Value).size) = true) h554 (by kernel_rfl) (by kernel_rfl) (by kernel_rfl) (by kernel_rfl) (by kernel_rfl) (by kernel_rfl) (by kernel_rfl) (by kernel_rfl))
        have h558 := (cases8 (Q := fun z_ => wrc (#[(.slice A443 (([] : List Int) ++ p1).length c444), (.int .i64 a526.e0), (.int .i64 a526.e1), (.int .i64 a526.e2), (.int .i64 a526.e3), (.int .i64 a526.e4), (.int .i64 a526.e5), (.int .i64 a526.e6), (.int .i64 a526.e7), (.int .i64 a527.e0), (.int .i64 a527.e1), (.int .i64 a527.e2), (.int .i64 a527.e3), (.int .i64 a527.e4), (.int .i64 a527.e5), (.int .i64 a527.e6), (.int .i64 a527.e7), (.int .i64 0), (.int .i64 0)] : Array Value) [(1 + z_.toNat * 1, (.int .i64 ((rdD p0 (rdD p1 x528 0) z_Tile).S)))] = (#[(.slice A443 (([] : List Int) ++ p1).length c444), (.int .i64 ((A8_Int.set a526 z_ ((rdD p0 (rdD p1 x528 0) z_Tile).S)).e0)), (.int .i64 ((A8_Int.set a526 z_ ((rdD p0 (rdD p1 x528 0) z_Tile).S)).e1)), (.int .i64 ((A8_Int.set a526 z_ ((rdD p0 (rdD p1 x528 0) z_Tile).S)).e2)), (.int .i64 ((A8_Int.set a526 z_ ((rdD p0 (rdD p1 x528 0) z_Tile).S)).e3)), (.int .i64 ((A8_Int.set a526 z_ ((rdD p0 (rdD p1 x528 0) z_Tile).S)).e4)), (.int .i64 ((A8_Int.set a526 z_ ((rdD p0 (rdD p1 x528 0) z_Tile).S)).e5)), (.int .i64 ((A8_Int.set a526 z_ ((rdD p0 (rdD p1 x528 0) z_Tile).S)).e6)), (.int .i64 ((A8_Int.set a526 z_ ((rdD p0 (rdD p1 x528 0) z_Tile).S)).e7)), (.int .i64 a527.e0), (.int .i64 a527.e1), (.int .i64 a527.e2), (.int .i64 a527.e3), (.int .i64 a527.e4), (.int .i64 a527.e5), (.int .i64 a527.e6), (.int .i64 a527.e7), (.int .i64 0), (.int .i64 0)] : Array Value)) h554 (by kernel_rfl) (by kernel_rfl) (by kernel_rfl) (by kernel_rfl) (by kernel_rfl) (by kernel_rfl) (by kernel_rfl) (by kernel_rfl))
        refine WL.store hS550 1 rfl [(1 + x528.toNat * 1, (.int .i64 ((rdD p0 (rdD p1 x528 0) z_Tile).S)))] #[(.slice A443 (([] : List Int) ++ p1).length c444), (.int .i64 ((A8_Int.set a526 x528 ((rdD p0 (rdD p1 x528 0) z_Tile).S)).e0)), (.int .i64 ((A8_Int.set a526 x528 ((rdD p0 (rdD p1 x528 0) z_Tile).S)).e1)), (.int .i64 ((A8_Int.set a526 x528 ((rdD p0 (rdD p1 x528 0) z_Tile).S)).e2)), (.int .i64 ((A8_Int.set a526 x528 ((rdD p0 (rdD p1 x528 0) z_Tile).S)).e3)), (.int .i64 ((A8_Int.set a526 x528 ((rdD p0 (rdD p1 x528 0) z_Tile).S)).e4)), (.int .i64 ((A8_Int.set a526 x528 ((rdD p0 (rdD p1 x528 0) z_Tile).S)).e5)), (.int .i64 ((A8_Int.set a526 x528 ((rdD p0 (rdD p1 x528 0) z_Tile).S)).e6)), (.int .i64 ((A8_Int.set a526 x528 ((rdD p0 (rdD p1 x528 0) z_Tile).S)).e7)), (.int .i64 a527.e0), (.int .i64 a527.e1), (.int .i64 a527.e2), (.int .i64 a527.e3), (.int .i64 a527.e4), (.int .i64 a527.e5), (.int .i64 a527.e6), (.int .i64 a527.e7), (.int .i64 0), (.int .i64 0)] (fun fb => by kernel_rfl) h557 h558 [0, 2] (by decide) (by decide) (fun w555 hS556 => ?_)
        refine ⟨⟨rowR.cell (hS556.rd 0).1 z_Tile h553.1 h553.2 0 rfl, trivial⟩, ?_⟩
        refine seg 17 [] [0, 1, 4, 5, 11, 12, 13, 29, 33] [(0, (.slice A_p0 p0.length c_p0)), (1, (.slice A_p1 p1.length c_p1)), (4, (.pointer (some ⟨g437, 0, none⟩))), (5, (.pointer (some ⟨g447, 0, none⟩))), (11, (.slice A_p1 p1.length c_p1)), (12, (.int .i64 (p1.length : Int))), (13, (.int .i64 x528)), (29, (.int .i64 ((rdD p0 (rdD p1 x528 0) z_Tile).N))), (33, (.pointer (some (flatA ⟨g447, 9, none⟩ (x528.toNat * 1)))))] [.idx (some ⟨0, 0, none⟩) x528 8] (fun fb => by kernel_rfl) rfl ⟨⟨h554.1, h554.2, rfl⟩, trivial⟩ ?_
        have h561 := (cases8 (Q := fun z_ => (([(9 + z_.toNat * 1, (.int .i64 ((rdD p0 (rdD p1 x528 0) z_Tile).N)))] : List (Nat × Value)).all fun p_ => Nat.blt p_.1 (#[(.slice A443 (([] : List Int) ++ p1).length c444), (.int .i64 ((A8_Int.set a526 x528 ((rdD p0 (rdD p1 x528 0) z_Tile).S)).e0)), (.int .i64 ((A8_Int.set a526 x528 ((rdD p0 (rdD p1 x528 0) z_Tile).S)).e1)), (.int .i64 ((A8_Int.set a526 x528 ((rdD p0 (rdD p1 x528 0) z_Tile).S)).e2)), (.int .i64 ((A8_Int.set a526 x528 ((rdD p0 (rdD p1 x528 0) z_Tile).S)).e3)), (.int .i64 ((A8_Int.set a526 x528 ((rdD p0 (rdD p1 x528 0) z_Tile).S)).e4)), (.int .i64 ((A8_Int.set a526 x528 ((rdD p0 (rdD p1 x528 0) z_Tile).S)).e5)), (.int .i64 ((A8_Int.set a526 x528 ((rdD p0 (rdD p1 x528 0) z_Tile).S)).e6)), (.int .i64 ((A8_Int.set a526 x528 ((rdD p0 (rdD p1 x528 0) z_Tile).S)).e7)), (.int .i64 a527.e0), (.int .i64 a527.e1), (.int .i64 a527.e2), (.int .i64 a527.e3), (.int .i64 a527.e4), (.int .i64 a527.e5), (.int .i64 a527.e6), (.int .i64 a527.e7), (.int .i64 0), (.int .i64 0)] : Array Value).size) = true) h554 (by kernel_rfl) (by kernel_rfl) (by kernel_rfl) (by kernel_rfl) (by kernel_rfl) (by kernel_rfl) (by kernel_rfl) (by kernel_rfl))
        have h562 := (cases8 (Q := fun z_ => wrc (#[(.slice A443 (([] : List Int) ++ p1).length c444), (.int .i64 ((A8_Int.set a526 x528 ((rdD p0 (rdD p1 x528 0) z_Tile).S)).e0)), (.int .i64 ((A8_Int.set a526 x528 ((rdD p0 (rdD p1 x528 0) z_Tile).S)).e1)), (.int .i64 ((A8_Int.set a526 x528 ((rdD p0 (rdD p1 x528 0) z_Tile).S)).e2)), (.int .i64 ((A8_Int.set a526 x528 ((rdD p0 (rdD p1 x528 0) z_Tile).S)).e3)), (.int .i64 ((A8_Int.set a526 x528 ((rdD p0 (rdD p1 x528 0) z_Tile).S)).e4)), (.int .i64 ((A8_Int.set a526 x528 ((rdD p0 (rdD p1 x528 0) z_Tile).S)).e5)), (.int .i64 ((A8_Int.set a526 x528 ((rdD p0 (rdD p1 x528 0) z_Tile).S)).e6)), (.int .i64 ((A8_Int.set a526 x528 ((rdD p0 (rdD p1 x528 0) z_Tile).S)).e7)), (.int .i64 a527.e0), (.int .i64 a527.e1), (.int .i64 a527.e2), (.int .i64 a527.e3), (.int .i64 a527.e4), (.int .i64 a527.e5), (.int .i64 a527.e6), (.int .i64 a527.e7), (.int .i64 0), (.int .i64 0)] : Array Value) [(9 + z_.toNat * 1, (.int .i64 ((rdD p0 (rdD p1 x528 0) z_Tile).N)))] = (#[(.slice A443 (([] : List Int) ++ p1).length c444), (.int .i64 ((A8_Int.set a526 x528 ((rdD p0 (rdD p1 x528 0) z_Tile).S)).e0)), (.int .i64 ((A8_Int.set a526 x528 ((rdD p0 (rdD p1 x528 0) z_Tile).S)).e1)), (.int .i64 ((A8_Int.set a526 x528 ((rdD p0 (rdD p1 x528 0) z_Tile).S)).e2)), (.int .i64 ((A8_Int.set a526 x528 ((rdD p0 (rdD p1 x528 0) z_Tile).S)).e3)), (.int .i64 ((A8_Int.set a526 x528 ((rdD p0 (rdD p1 x528 0) z_Tile).S)).e4)), (.int .i64 ((A8_Int.set a526 x528 ((rdD p0 (rdD p1 x528 0) z_Tile).S)).e5)), (.int .i64 ((A8_Int.set a526 x528 ((rdD p0 (rdD p1 x528 0) z_Tile).S)).e6)), (.int .i64 ((A8_Int.set a526 x528 ((rdD p0 (rdD p1 x528 0) z_Tile).S)).e7)), (.int .i64 ((A8_Int.set a527 z_ ((rdD p0 (rdD p1 x528 0) z_Tile).N)).e0)), (.int .i64 ((A8_Int.set a527 z_ ((rdD p0 (rdD p1 x528 0) z_Tile).N)).e1)), (.int .i64 ((A8_Int.set a527 z_ ((rdD p0 (rdD p1 x528 0) z_Tile).N)).e2)), (.int .i64 ((A8_Int.set a527 z_ ((rdD p0 (rdD p1 x528 0) z_Tile).N)).e3)), (.int .i64 ((A8_Int.set a527 z_ ((rdD p0 (rdD p1 x528 0) z_Tile).N)).e4)), (.int .i64 ((A8_Int.set a527 z_ ((rdD p0 (rdD p1 x528 0) z_Tile).N)).e5)), (.int .i64 ((A8_Int.set a527 z_ ((rdD p0 (rdD p1 x528 0) z_Tile).N)).e6)), (.int .i64 ((A8_Int.set a527 z_ ((rdD p0 (rdD p1 x528 0) z_Tile).N)).e7)), (.int .i64 0), (.int .i64 0)] : Array Value)) h554 (by kernel_rfl) (by kernel_rfl) (by kernel_rfl) (by kernel_rfl) (by kernel_rfl) (by kernel_rfl) (by kernel_rfl) (by kernel_rfl))
        refine WL.store hS556 0 rfl [(9 + x528.toNat * 1, (.int .i64 ((rdD p0 (rdD p1 x528 0) z_Tile).N)))] #[(.slice A443 (([] : List Int) ++ p1).length c444), (.int .i64 ((A8_Int.set a526 x528 ((rdD p0 (rdD p1 x528 0) z_Tile).S)).e0)), (.int .i64 ((A8_Int.set a526 x528 ((rdD p0 (rdD p1 x528 0) z_Tile).S)).e1)), (.int .i64 ((A8_Int.set a526 x528 ((rdD p0 (rdD p1 x528 0) z_Tile).S)).e2)), (.int .i64 ((A8_Int.set a526 x528 ((rdD p0 (rdD p1 x528 0) z_Tile).S)).e3)), (.int .i64 ((A8_Int.set a526 x528 ((rdD p0 (rdD p1 x528 0) z_Tile).S)).e4)), (.int .i64 ((A8_Int.set a526 x528 ((rdD p0 (rdD p1 x528 0) z_Tile).S)).e5)), (.int .i64 ((A8_Int.set a526 x528 ((rdD p0 (rdD p1 x528 0) z_Tile).S)).e6)), (.int .i64 ((A8_Int.set a526 x528 ((rdD p0 (rdD p1 x528 0) z_Tile).S)).e7)), (.int .i64 ((A8_Int.set a527 x528 ((rdD p0 (rdD p1 x528 0) z_Tile).N)).e0)), (.int .i64 ((A8_Int.set a527 x528 ((rdD p0 (rdD p1 x528 0) z_Tile).N)).e1)), (.int .i64 ((A8_Int.set a527 x528 ((rdD p0 (rdD p1 x528 0) z_Tile).N)).e2)), (.int .i64 ((A8_Int.set a527 x528 ((rdD p0 (rdD p1 x528 0) z_Tile).N)).e3)), (.int .i64 ((A8_Int.set a527 x528 ((rdD p0 (rdD p1 x528 0) z_Tile).N)).e4)), (.int .i64 ((A8_Int.set a527 x528 ((rdD p0 (rdD p1 x528 0) z_Tile).N)).e5)), (.int .i64 ((A8_Int.set a527 x528 ((rdD p0 (rdD p1 x528 0) z_Tile).N)).e6)), (.int .i64 ((A8_Int.set a527 x528 ((rdD p0 (rdD p1 x528 0) z_Tile).N)).e7)), (.int .i64 0), (.int .i64 0)] (fun fb => by kernel_rfl) h561 h562 [1, 2] (by decide) (by decide) (fun w559 hS560 => ?_)
        refine ⟨trivial, ?_⟩
        refine WL.done rfl ?_
        refine WX.blockN (WX.next ?_)
        refine WC.region ?_
        refine seg 2 [] [0, 1, 4, 5, 11, 12, 13] [(0, (.slice A_p0 p0.length c_p0)), (1, (.slice A_p1 p1.length c_p1)), (4, (.pointer (some ⟨g437, 0, none⟩))), (5, (.pointer (some ⟨g447, 0, none⟩))), (11, (.slice A_p1 p1.length c_p1)), (12, (.int .i64 (p1.length : Int))), (13, (.int .i64 (w64 (x528 + 1))))] [] (fun fb => by kernel_rfl) rfl trivial ?_
        refine WL.done rfl ?_
        exact WX.again k533 (Nat.lt_succ_self _) ((A8_Int.set a526 x528 ((rdD p0 (rdD p1 x528 0) z_Tile).S)), (A8_Int.set a527 x528 ((rdD p0 (rdD p1 x528 0) z_Tile).N)), w64 (x528 + 1)) [0, 1, 4, 5, 11, 12, 13] rfl ⟨(hS560.subR [0, 1]).sub [1, 0, 2] (by decide), hl536⟩
      refine WC.condF2 (fun fb => by kernel_rfl) h537 ?_
      refine WC.exit ?_
      injection hl536 with hl536
      exact WX.thenX (WX.thenX (WX.blockHere (WX.to Kx531 (a526, a527) [0, 1, 4, 5] rfl ⟨(hS535.subR [0, 1]).sub [0, 1, 2] (by decide), hl536.symm⟩)))
  rintro y566 w563 ⟨hS564, hq565⟩
  subst hq565
  refine WX.next ?_
  refine WC.seq ?_
  obtain ⟨h581, hf⟩ := as_some hf
  obtain ⟨h582, hf⟩ := as_some hf
  obtain ⟨h583, hf⟩ := as_some hf
  obtain ⟨h584, hf⟩ := as_some hf
  refine WC.regionD ([(3, ((adr A_p1).add (((0 : Int)).toNat * 1)), (.int .i64 (rdD p1 (0 : Int) 0))), (6, (((adr A_p0).add (((rdD p1 (0 : Int) 0)).toNat * 4)).add 3), (.int .i64 ((rdD p0 (rdD p1 (0 : Int) 0) z_Tile).W))), (13, ((adr A_p1).add ((w64 ((p1.length : Int) - 1)).toNat * 1)), (.int .i64 (rdD p1 (w64 ((p1.length : Int) - 1)) 0))), (16, (((adr A_p0).add (((rdD p1 (w64 ((p1.length : Int) - 1)) 0)).toNat * 4)).add 1), (.int .i64 ((rdD p0 (rdD p1 (w64 ((p1.length : Int) - 1)) 0) z_Tile).E)))], [0, 1, 2, 3, 4, 5, 6, 7, 8, 9, 10, 11, 12, 13, 14, 15, 16, 17, 19], [[], [], [1], [1, 2], [0, 1, 2, 3], [0, 1, 2, 3, 4], [0, 1, 2, 3, 4, 5], [], [], [], [9], [9, 10], [8, 9, 10, 11], [8, 9, 10, 11, 12], [7, 8, 9, 10, 11, 12, 13], [7, 8, 9, 10, 11, 12, 13, 14], [7, 8, 9, 10, 11, 12, 13, 14, 15], [0, 1, 2, 3, 4, 5, 6], [0, 1, 2, 3, 4, 5, 6, 17], [0, 1, 2, 3, 4, 5, 6, 7, 8, 9, 10, 11, 12, 13, 14, 15, 16, 17, 18], [0, 1, 2, 3, 4, 5, 6, 7, 8, 9, 10, 11, 12, 13, 14, 15, 16, 17, 18, 19]]) [[0, 1, 2, 3, 4, 5, 6, 7, 8, 9, 10, 11, 12, 13, 14, 15, 16, 17, 18, 19, 20]] (by kernel_rfl) (by kernel_rfl) (NoPanic.seq (NoPanic.body)) ?_
  have hS576 := hS564.drew
  revert hS576
  generalize World.drew w563 = w575
  intro hS576
  refine ⟨⟨rowR.cell (hS576.rd 1).1 0 h581.1 h581.2 0 rfl, rowR.cell (hS576.rd 0).1 z_Tile h582.1 h582.2 3 rfl, rowR.cell (hS576.rd 1).1 0 h583.1 h583.2 0 rfl, rowR.cell (hS576.rd 0).1 z_Tile h584.1 h584.2 1 rfl, trivial⟩, forallC ?_ (forallN)⟩
  refine segF 18 [.v (.int .i64 (rdD p1 (0 : Int) 0)), .v (.int .i64 ((rdD p0 (rdD p1 (0 : Int) 0) z_Tile).W)), .v (.int .i64 (rdD p1 (w64 ((p1.length : Int) - 1)) 0)), .v (.int .i64 ((rdD p0 (rdD p1 (w64 ((p1.length : Int) - 1)) 0) z_Tile).E))] [4, 5, 41, 51, 52] [(4, (.pointer (some ⟨g437, 0, none⟩))), (5, (.pointer (some ⟨g447, 0, none⟩))), (41, (.int .i64 ((rdD p0 (rdD p1 (0 : Int) 0) z_Tile).W))), (51, (.int .i64 ((rdD p0 (rdD p1 (w64 ((p1.length : Int) - 1)) 0) z_Tile).E))), (52, (.pointer (some ⟨g447, 17, none⟩)))] [.idx A_p1 (0 : Int) p1.length, .idx A_p0 (rdD p1 (0 : Int) 0) p0.length, .idx A_p1 (w64 ((p1.length : Int) - 1)) p1.length, .idx A_p0 (rdD p1 (w64 ((p1.length : Int) - 1)) 0) p0.length] [0, 1, 2, 3] [(3, ((adr A_p1).add (((0 : Int)).toNat * 1)), (.int .i64 (rdD p1 (0 : Int) 0))), (6, (((adr A_p0).add (((rdD p1 (0 : Int) 0)).toNat * 4)).add 3), (.int .i64 ((rdD p0 (rdD p1 (0 : Int) 0) z_Tile).W))), (13, ((adr A_p1).add ((w64 ((p1.length : Int) - 1)).toNat * 1)), (.int .i64 (rdD p1 (w64 ((p1.length : Int) - 1)) 0))), (16, (((adr A_p0).add (((rdD p1 (w64 ((p1.length : Int) - 1)) 0)).toNat * 4)).add 1), (.int .i64 ((rdD p0 (rdD p1 (w64 ((p1.length : Int) - 1)) 0) z_Tile).E)))] (fun fb => by kernel_rfl) rfl ⟨rowR.adr (hS576.rd 1).1 h581.1 h581.2, rowR.adr (hS576.rd 0).1 h582.1 h582.2, rowR.adr (hS576.rd 1).1 h583.1 h583.2, rowR.adr (hS576.rd 0).1 h584.1 h584.2, trivial⟩ rfl ?_
  refine WL.store hS576 1 rfl [(17, (.int .i64 ((rdD p0 (rdD p1 (0 : Int) 0) z_Tile).W)))] #[(.slice A443 (([] : List Int) ++ p1).length c444), (.int .i64 x531.1.e0), (.int .i64 x531.1.e1), (.int .i64 x531.1.e2), (.int .i64 x531.1.e3), (.int .i64 x531.1.e4), (.int .i64 x531.1.e5), (.int .i64 x531.1.e6), (.int .i64 x531.1.e7), (.int .i64 x531.2.e0), (.int .i64 x531.2.e1), (.int .i64 x531.2.e2), (.int .i64 x531.2.e3), (.int .i64 x531.2.e4), (.int .i64 x531.2.e5), (.int .i64 x531.2.e6), (.int .i64 x531.2.e7), (.int .i64 ((rdD p0 (rdD p1 (0 : Int) 0) z_Tile).W)), (.int .i64 0)] (fun fb => by kernel_rfl) (by kernel_rfl) (by kernel_rfl) [0, 2] (by decide) (by decide) (fun w585 hS586 => ?_)
  refine ⟨⟨rowR.cell (hS586.rd 1).1 0 h583.1 h583.2 0 rfl, rowR.cell (hS586.rd 0).1 z_Tile h584.1 h584.2 1 rfl, trivial⟩, ?_⟩
  refine seg 20 [] [4, 5, 51, 53] [(4, (.pointer (some ⟨g437, 0, none⟩))), (5, (.pointer (some ⟨g447, 0, none⟩))), (51, (.int .i64 ((rdD p0 (rdD p1 (w64 ((p1.length : Int) - 1)) 0) z_Tile).E))), (53, (.pointer (some ⟨g447, 18, none⟩)))] [] (fun fb => by kernel_rfl) rfl trivial ?_
  refine WL.store hS586 0 rfl [(18, (.int .i64 ((rdD p0 (rdD p1 (w64 ((p1.length : Int) - 1)) 0) z_Tile).E)))] #[(.slice A443 (([] : List Int) ++ p1).length c444), (.int .i64 x531.1.e0), (.int .i64 x531.1.e1), (.int .i64 x531.1.e2), (.int .i64 x531.1.e3), (.int .i64 x531.1.e4), (.int .i64 x531.1.e5), (.int .i64 x531.1.e6), (.int .i64 x531.1.e7), (.int .i64 x531.2.e0), (.int .i64 x531.2.e1), (.int .i64 x531.2.e2), (.int .i64 x531.2.e3), (.int .i64 x531.2.e4), (.int .i64 x531.2.e5), (.int .i64 x531.2.e6), (.int .i64 x531.2.e7), (.int .i64 ((rdD p0 (rdD p1 (0 : Int) 0) z_Tile).W)), (.int .i64 ((rdD p0 (rdD p1 (w64 ((p1.length : Int) - 1)) 0) z_Tile).E))] (fun fb => by kernel_rfl) (by kernel_rfl) (by kernel_rfl) [1, 2] (by decide) (by decide) (fun w587 hS588 => ?_)
  refine ⟨trivial, ?_⟩
  refine WL.done rfl ?_
  refine WX.next ?_
  refine WC.seq ?_
  refine WC.region ?_
  refine seg 1 [.v (.slice A443 (([] : List Int) ++ p1).length c444), .v (.int .i64 x531.1.e0), .v (.int .i64 x531.1.e1), .v (.int .i64 x531.1.e2), .v (.int .i64 x531.1.e3), .v (.int .i64 x531.1.e4), .v (.int .i64 x531.1.e5), .v (.int .i64 x531.1.e6), .v (.int .i64 x531.1.e7), .v (.int .i64 x531.2.e0), .v (.int .i64 x531.2.e1), .v (.int .i64 x531.2.e2), .v (.int .i64 x531.2.e3), .v (.int .i64 x531.2.e4), .v (.int .i64 x531.2.e5), .v (.int .i64 x531.2.e6), .v (.int .i64 x531.2.e7), .v (.int .i64 ((rdD p0 (rdD p1 (0 : Int) 0) z_Tile).W)), .v (.int .i64 ((rdD p0 (rdD p1 (w64 ((p1.length : Int) - 1)) 0) z_Tile).E))] [4, 54] [(4, (.pointer (some ⟨g437, 0, none⟩))), (54, (.agg #[(.slice A443 (([] : List Int) ++ p1).length c444), (.int .i64 x531.1.e0), (.int .i64 x531.1.e1), (.int .i64 x531.1.e2), (.int .i64 x531.1.e3), (.int .i64 x531.1.e4), (.int .i64 x531.1.e5), (.int .i64 x531.1.e6), (.int .i64 x531.1.e7), (.int .i64 x531.2.e0), (.int .i64 x531.2.e1), (.int .i64 x531.2.e2), (.int .i64 x531.2.e3), (.int .i64 x531.2.e4), (.int .i64 x531.2.e5), (.int .i64 x531.2.e6), (.int .i64 x531.2.e7), (.int .i64 ((rdD p0 (rdD p1 (0 : Int) 0) z_Tile).W)), (.int .i64 ((rdD p0 (rdD p1 (w64 ((p1.length : Int) - 1)) 0) z_Tile).E))]))] [.cell ⟨g447, 0, none⟩ (.slice A443 (([] : List Int) ++ p1).length c444), .cell ⟨g447, 1, none⟩ (.int .i64 x531.1.e0), .cell ⟨g447, 2, none⟩ (.int .i64 x531.1.e1), .cell ⟨g447, 3, none⟩ (.int .i64 x531.1.e2), .cell ⟨g447, 4, none⟩ (.int .i64 x531.1.e3), .cell ⟨g447, 5, none⟩ (.int .i64 x531.1.e4), .cell ⟨g447, 6, none⟩ (.int .i64 x531.1.e5), .cell ⟨g447, 7, none⟩ (.int .i64 x531.1.e6), .cell ⟨g447, 8, none⟩ (.int .i64 x531.1.e7), .cell ⟨g447, 9, none⟩ (.int .i64 x531.2.e0), .cell ⟨g447, 10, none⟩ (.int .i64 x531.2.e1), .cell ⟨g447, 11, none⟩ (.int .i64 x531.2.e2), .cell ⟨g447, 12, none⟩ (.int .i64 x531.2.e3), .cell ⟨g447, 13, none⟩ (.int .i64 x531.2.e4), .cell ⟨g447, 14, none⟩ (.int .i64 x531.2.e5), .cell ⟨g447, 15, none⟩ (.int .i64 x531.2.e6), .cell ⟨g447, 16, none⟩ (.int .i64 x531.2.e7), .cell ⟨g447, 17, none⟩ (.int .i64 ((rdD p0 (rdD p1 (0 : Int) 0) z_Tile).W)), .cell ⟨g447, 18, none⟩ (.int .i64 ((rdD p0 (rdD p1 (w64 ((p1.length : Int) - 1)) 0) z_Tile).E))] (fun fb => by kernel_rfl) rfl ⟨hS588.cell 0 rfl 0 rfl, hS588.cell 0 rfl 1 rfl, hS588.cell 0 rfl 2 rfl, hS588.cell 0 rfl 3 rfl, hS588.cell 0 rfl 4 rfl, hS588.cell 0 rfl 5 rfl, hS588.cell 0 rfl 6 rfl, hS588.cell 0 rfl 7 rfl, hS588.cell 0 rfl 8 rfl, hS588.cell 0 rfl 9 rfl, hS588.cell 0 rfl 10 rfl, hS588.cell 0 rfl 11 rfl, hS588.cell 0 rfl 12 rfl, hS588.cell 0 rfl 13 rfl, hS588.cell 0 rfl 14 rfl, hS588.cell 0 rfl 15 rfl, hS588.cell 0 rfl 16 rfl, hS588.cell 0 rfl 17 rfl, hS588.cell 0 rfl 18 rfl, trivial⟩ ?_
  refine WL.store hS588 1 rfl [(0, (.slice A443 (([] : List Int) ++ p1).length c444)), (1, (.int .i64 x531.1.e0)), (2, (.int .i64 x531.1.e1)), (3, (.int .i64 x531.1.e2)), (4, (.int .i64 x531.1.e3)), (5, (.int .i64 x531.1.e4)), (6, (.int .i64 x531.1.e5)), (7, (.int .i64 x531.1.e6)), (8, (.int .i64 x531.1.e7)), (9, (.int .i64 x531.2.e0)), (10, (.int .i64 x531.2.e1)), (11, (.int .i64 x531.2.e2)), (12, (.int .i64 x531.2.e3)), (13, (.int .i64 x531.2.e4)), (14, (.int .i64 x531.2.e5)), (15, (.int .i64 x531.2.e6)), (16, (.int .i64 x531.2.e7)), (17, (.int .i64 ((rdD p0 (rdD p1 (0 : Int) 0) z_Tile).W))), (18, (.int .i64 ((rdD p0 (rdD p1 (w64 ((p1.length : Int) - 1)) 0) z_Tile).E)))] #[(.slice A443 (([] : List Int) ++ p1).length c444), (.int .i64 x531.1.e0), (.int .i64 x531.1.e1), (.int .i64 x531.1.e2), (.int .i64 x531.1.e3), (.int .i64 x531.1.e4), (.int .i64 x531.1.e5), (.int .i64 x531.1.e6), (.int .i64 x531.1.e7), (.int .i64 x531.2.e0), (.int .i64 x531.2.e1), (.int .i64 x531.2.e2), (.int .i64 x531.2.e3), (.int .i64 x531.2.e4), (.int .i64 x531.2.e5), (.int .i64 x531.2.e6), (.int .i64 x531.2.e7), (.int .i64 ((rdD p0 (rdD p1 (0 : Int) 0) z_Tile).W)), (.int .i64 ((rdD p0 (rdD p1 (w64 ((p1.length : Int) - 1)) 0) z_Tile).E))] (fun fb => by kernel_rfl) (by kernel_rfl) (by kernel_rfl) [0, 2] (by decide) (by decide) (fun w589 hS590 => ?_)
  refine ⟨trivial, ?_⟩
  refine WL.done rfl ?_
  refine WX.next ?_
  refine WC.ret ?_
  injection hf with hf
  subst hf
  exact WX.ret_ [.v (.slice A443 (([] : List Int) ++ p1).length c444), .v (.int .i64 x531.1.e0), .v (.int .i64 x531.1.e1), .v (.int .i64 x531.1.e2), .v (.int .i64 x531.1.e3), .v (.int .i64 x531.1.e4), .v (.int .i64 x531.1.e5), .v (.int .i64 x531.1.e6), .v (.int .i64 x531.1.e7), .v (.int .i64 x531.2.e0), .v (.int .i64 x531.2.e1), .v (.int .i64 x531.2.e2), .v (.int .i64 x531.2.e3), .v (.int .i64 x531.2.e4), .v (.int .i64 x531.2.e5), .v (.int .i64 x531.2.e6), .v (.int .i64 x531.2.e7), .v (.int .i64 ((rdD p0 (rdD p1 (0 : Int) 0) z_Tile).W)), .v (.int .i64 ((rdD p0 (rdD p1 (w64 ((p1.length : Int) - 1)) 0) z_Tile).E))] (.agg #[(.slice A443 (([] : List Int) ++ p1).length c444), (.int .i64 x531.1.e0), (.int .i64 x531.1.e1), (.int .i64 x531.1.e2), (.int .i64 x531.1.e3), (.int .i64 x531.1.e4), (.int .i64 x531.1.e5), (.int .i64 x531.1.e6), (.int .i64 x531.1.e7), (.int .i64 x531.2.e0), (.int .i64 x531.2.e1), (.int .i64 x531.2.e2), (.int .i64 x531.2.e3), (.int .i64 x531.2.e4), (.int .i64 x531.2.e5), (.int .i64 x531.2.e6), (.int .i64 x531.2.e7), (.int .i64 ((rdD p0 (rdD p1 (0 : Int) 0) z_Tile).W)), (.int .i64 ((rdD p0 (rdD p1 (w64 ((p1.length : Int) - 1)) 0) z_Tile).E))]) [.cell ⟨g437, 0, none⟩ (.slice A443 (([] : List Int) ++ p1).length c444), .cell ⟨g437, 1, none⟩ (.int .i64 x531.1.e0), .cell ⟨g437, 2, none⟩ (.int .i64 x531.1.e1), .cell ⟨g437, 3, none⟩ (.int .i64 x531.1.e2), .cell ⟨g437, 4, none⟩ (.int .i64 x531.1.e3), .cell ⟨g437, 5, none⟩ (.int .i64 x531.1.e4), .cell ⟨g437, 6, none⟩ (.int .i64 x531.1.e5), .cell ⟨g437, 7, none⟩ (.int .i64 x531.1.e6), .cell ⟨g437, 8, none⟩ (.int .i64 x531.1.e7), .cell ⟨g437, 9, none⟩ (.int .i64 x531.2.e0), .cell ⟨g437, 10, none⟩ (.int .i64 x531.2.e1), .cell ⟨g437, 11, none⟩ (.int .i64 x531.2.e2), .cell ⟨g437, 12, none⟩ (.int .i64 x531.2.e3), .cell ⟨g437, 13, none⟩ (.int .i64 x531.2.e4), .cell ⟨g437, 14, none⟩ (.int .i64 x531.2.e5), .cell ⟨g437, 15, none⟩ (.int .i64 x531.2.e6), .cell ⟨g437, 16, none⟩ (.int .i64 x531.2.e7), .cell ⟨g437, 17, none⟩ (.int .i64 ((rdD p0 (rdD p1 (0 : Int) 0) z_Tile).W)), .cell ⟨g437, 18, none⟩ (.int .i64 ((rdD p0 (rdD p1 (w64 ((p1.length : Int) - 1)) 0) z_Tile).E))] (fun fb => by kernel_rfl) ⟨hS590.cell 0 rfl 0 rfl, hS590.cell 0 rfl 1 rfl, hS590.cell 0 rfl 2 rfl, hS590.cell 0 rfl 3 rfl, hS590.cell 0 rfl 4 rfl, hS590.cell 0 rfl 5 rfl, hS590.cell 0 rfl 6 rfl, hS590.cell 0 rfl 7 rfl, hS590.cell 0 rfl 8 rfl, hS590.cell 0 rfl 9 rfl, hS590.cell 0 rfl 10 rfl, hS590.cell 0 rfl 11 rfl, hS590.cell 0 rfl 12 rfl, hS590.cell 0 rfl 13 rfl, hS590.cell 0 rfl 14 rfl, hS590.cell 0 rfl 15 rfl, hS590.cell 0 rfl 16 rfl, hS590.cell 0 rfl 17 rfl, hS590.cell 0 rfl 18 rfl, trivial⟩ ⟨_, rfl, A443, c444, rfl, (hS590.sub [2] (by decide)).noR⟩
theorem rows_All_1_calls : ∀ (k : Nat) (p0 : Int) (f0 : Int) (f1 : List Row) (f2 : List Tile) (f3 : List Int) (g_f0 : Nat) (g_f1 : Nat) (A_f1 : Option Addr) (c_f1 : Nat) (H_f1 : Nat → HF) (g_f2 : Nat) (A_f2 : Option Addr) (c_f2 : Nat) (g_f3 : Nat) (A_f3 : Option Addr) (c_f3 : Nat) (g_f4 : Nat) (r : (List Row) × (List Int)) (w : World) (hR0 : RO (fpL [blk g_f1 (.cells #[(.slice A_f1 f1.length c_f1)] 82 (0, 0)), rowO 88 encN_Row A_f1 c_f1 (tag H_f1 f1), poolO [nestO subN_Row H_f1 f1], blk g_f3 (.cells #[(.slice A_f3 f3.length c_f3)] 36 (0, 0)), rowO 3 encInt A_f3 c_f3 f3]) w (blk g_f0 (.cells #[(.int .i64 f0)] 3 (0, 0)))) (hR1 : RO (fpL [blk g_f1 (.cells #[(.slice A_f1 f1.length c_f1)] 82 (0, 0)), rowO 88 encN_Row A_f1 c_f1 (tag H_f1 f1), poolO [nestO subN_Row H_f1 f1], blk g_f3 (.cells #[(.slice A_f3 f3.length c_f3)] 36 (0, 0)), rowO 3 encInt A_f3 c_f3 f3]) w (blk g_f2 (.cells #[(.slice A_f2 f2.length c_f2)] 22 (0, 0)))) (hR2 : RO (fpL [blk g_f1 (.cells #[(.slice A_f1 f1.length c_f1)] 82 (0, 0)), rowO 88 encN_Row A_f1 c_f1 (tag H_f1 f1), poolO [nestO subN_Row H_f1 f1], blk g_f3 (.cells #[(.slice A_f3 f3.length c_f3)] 36 (0, 0)), rowO 3 encInt A_f3 c_f3 f3]) w (rowR enc_Tile A_f2 c_f2 f2)) (hR3 : RO (fpL [blk g_f1 (.cells #[(.slice A_f1 f1.length c_f1)] 82 (0, 0)), rowO 88 encN_Row A_f1 c_f1 (tag H_f1 f1), poolO [nestO subN_Row H_f1 f1], blk g_f3 (.cells #[(.slice A_f3 f3.length c_f3)] 36 (0, 0)), rowO 3 encInt A_f3 c_f3 f3]) w (blk g_f4 (.cells #[(.func (.func 82) #[] #[(.pointer (some ⟨g_f0, 0, none⟩)), (.pointer (some ⟨g_f1, 0, none⟩)), (.pointer (some ⟨g_f2, 0, none⟩)), (.pointer (some ⟨g_f3, 0, none⟩)), (.pointer (some ⟨g_f4, 0, none⟩))])] 115 (0, 0)))) (hI : IoOK w [blk g_f1 (.cells #[(.slice A_f1 f1.length c_f1)] 82 (0, 0)), rowO 88 encN_Row A_f1 c_f1 (tag H_f1 f1), poolO [nestO subN_Row H_f1 f1], blk g_f3 (.cells #[(.slice A_f3 f3.length c_f3)] 36 (0, 0)), rowO 3 encInt A_f3 c_f3 f3]) (hf : rows_All_1 k p0 f0 f1 f2 f3 = some r),
    CallsR Try.prog 82 #[(.int .i64 p0), (.pointer (some ⟨g_f0, 0, none⟩)), (.pointer (some ⟨g_f1, 0, none⟩)), (.pointer (some ⟨g_f2, 0, none⟩)), (.pointer (some ⟨g_f3, 0, none⟩)), (.pointer (some ⟨g_f4, 0, none⟩))] w (fun v w' => ∃ (A1_ : Option Addr), ∃ (c1_ : Nat), ∃ (h1_ : Nat → HF), ∃ (A2_ : Option Addr), ∃ (c2_ : Nat), v = (.tuple #[]) ∧ St (fpL [blk g_f1 (.cells #[(.slice A_f1 f1.length c_f1)] 82 (0, 0)), rowO 88 encN_Row A_f1 c_f1 (tag H_f1 f1), poolO [nestO subN_Row H_f1 f1], blk g_f3 (.cells #[(.slice A_f3 f3.length c_f3)] 36 (0, 0)), rowO 3 encInt A_f3 c_f3 f3]) w w' [] [blk g_f1 (.cells #[(.slice A1_ r.1.length c1_)] 82 (0, 0)), rowO 88 encN_Row A1_ c1_ (tag h1_ r.1), poolO [nestO subN_Row h1_ r.1], blk g_f3 (.cells #[(.slice A2_ r.2.length c2_)] 36 (0, 0)), rowO 3 encInt A2_ c2_ r.2]) := by
  intro k
  induction k with
  | zero => intro p0 f0 f1 f2 f3 g_f0 g_f1 A_f1 c_f1 H_f1 g_f2 A_f2 c_f2 g_f3 A_f3 c_f3 g_f4 r w hR0 hR1 hR2 hR3 hI hf; rw [rows_All_1] at hf; cases hf
  | succ k ih_ =>
  intro p0 f0 f1 f2 f3 g_f0 g_f1 A_f1 c_f1 H_f1 g_f2 A_f2 c_f2 g_f3 A_f3 c_f3 g_f4 r w hR0 hR1 hR2 hR3 hI hf
  have hS : St (fpL [blk g_f1 (.cells #[(.slice A_f1 f1.length c_f1)] 82 (0, 0)), rowO 88 encN_Row A_f1 c_f1 (tag H_f1 f1), poolO [nestO subN_Row H_f1 f1], blk g_f3 (.cells #[(.slice A_f3 f3.length c_f3)] 36 (0, 0)), rowO 3 encInt A_f3 c_f3 f3]) w w [blk g_f0 (.cells #[(.int .i64 f0)] 3 (0, 0)), blk g_f2 (.cells #[(.slice A_f2 f2.length c_f2)] 22 (0, 0)), rowR enc_Tile A_f2 c_f2 f2, blk g_f4 (.cells #[(.func (.func 82) #[] #[(.pointer (some ⟨g_f0, 0, none⟩)), (.pointer (some ⟨g_f1, 0, none⟩)), (.pointer (some ⟨g_f2, 0, none⟩)), (.pointer (some ⟨g_f3, 0, none⟩)), (.pointer (some ⟨g_f4, 0, none⟩))])] 115 (0, 0))] [blk g_f1 (.cells #[(.slice A_f1 f1.length c_f1)] 82 (0, 0)), rowO 88 encN_Row A_f1 c_f1 (tag H_f1 f1), poolO [nestO subN_Row H_f1 f1], blk g_f3 (.cells #[(.slice A_f3 f3.length c_f3)] 36 (0, 0)), rowO 3 encInt A_f3 c_f3 f3] := St.initIO (ro_cons hR0 (ro_cons hR1 (ro_cons hR2 (ro_cons hR3 (ro_nil _ _))))) hI
  rw [rows_All_1] at hf
  generalize rows_All_1 k = rc_ at hf ih_
  refine enter 50 Try.func82 rfl Try.ntmps82 rfl ?_
  refine WC.seq ?_
  refine WC.seq ?_
  refine WC.region ?_
  refine seg 3 [.v (.int .i64 f0)] [0, 2, 3, 4, 5, 11] [(0, (.int .i64 p0)), (2, (.pointer (some ⟨g_f1, 0, none⟩))), (3, (.pointer (some ⟨g_f2, 0, none⟩))), (4, (.pointer (some ⟨g_f3, 0, none⟩))), (5, (.pointer (some ⟨g_f4, 0, none⟩))), (11, (.bool (p0 == f0)))] [.cell ⟨g_f0, 0, none⟩ (.int .i64 f0)] (fun fb => by kernel_rfl) rfl ⟨blk_cell (hS.rd 0).1 0 rfl, trivial⟩ ?_
  refine WL.done rfl ?_
  refine WX.next ?_
  rcases br_some hf with ⟨h770, hf⟩ | ⟨h770, hf⟩
  · refine WC.condT2 (fun fb => by kernel_rfl) h770 ?_
    refine WC.seq ?_
    refine WC.regionD ([(0, ⟨g_f1, 0, none⟩, (.slice A_f1 f1.length c_f1)), (1, ⟨g_f2, 0, none⟩, (.slice A_f2 f2.length c_f2)), (2, ⟨g_f3, 0, none⟩, (.slice A_f3 f3.length c_f3))], [0, 1, 2], [[], [], [], [1, 2], [1, 2, 3], [0, 1, 2, 3, 4], [0, 1, 2, 3, 4, 5]]) [[0, 1, 2, 3, 4, 5, 6]] (by kernel_rfl) (by kernel_rfl) (NoPanic.seq (NoPanic.seq (NoPanic.body))) ?_
    have hS792 := hS.drew
    revert hS792
    generalize World.drew w = w791
    intro hS792
    refine ⟨⟨hS792.cell 0 rfl 0 rfl, blk_cell (hS792.rd 1).1 0 rfl, hS792.cell 3 rfl 0 rfl, trivial⟩, forallC ?_ (forallN)⟩
    refine segF 3 [.v (.slice A_f1 f1.length c_f1), .v (.slice A_f2 f2.length c_f2), .v (.slice A_f3 f3.length c_f3)] [2, 4, 12, 13, 14] [(2, (.pointer (some ⟨g_f1, 0, none⟩))), (4, (.pointer (some ⟨g_f3, 0, none⟩))), (12, (.slice A_f1 f1.length c_f1)), (13, (.slice A_f2 f2.length c_f2)), (14, (.slice A_f3 f3.length c_f3))] [] [0, 1, 2] [(0, ⟨g_f1, 0, none⟩, (.slice A_f1 f1.length c_f1)), (1, ⟨g_f2, 0, none⟩, (.slice A_f2 f2.length c_f2)), (2, ⟨g_f3, 0, none⟩, (.slice A_f3 f3.length c_f3))] (fun fb => by kernel_rfl) rfl trivial rfl ?_
    obtain ⟨t793, ht794, hf⟩ := bind_some hf
    refine WL.call (some 15) 83 #[(.slice A_f2 f2.length c_f2), (.slice A_f3 f3.length c_f3)] (fun fb => by kernel_rfl) (rows_rowOf_calls _ f2 f3 A_f2 c_f2 A_f3 c_f3 t793 _ (hS792.rd 2) (hS792.ow 4).ofO ht794) (fun v w795 hR796 => ?_)
    obtain ⟨A798, c799, rfl, hk_⟩ := hR796
    have hS797 : St (fpL [blk g_f1 (.cells #[(.slice A_f1 f1.length c_f1)] 82 (0, 0)), rowO 88 encN_Row A_f1 c_f1 (tag H_f1 f1), poolO [nestO subN_Row H_f1 f1], blk g_f3 (.cells #[(.slice A_f3 f3.length c_f3)] 36 (0, 0)), rowO 3 encInt A_f3 c_f3 f3]) w w795 [blk g_f0 (.cells #[(.int .i64 f0)] 3 (0, 0)), blk g_f2 (.cells #[(.slice A_f2 f2.length c_f2)] 22 (0, 0)), rowR enc_Tile A_f2 c_f2 f2, blk g_f4 (.cells #[(.func (.func 82) #[] #[(.pointer (some ⟨g_f0, 0, none⟩)), (.pointer (some ⟨g_f1, 0, none⟩)), (.pointer (some ⟨g_f2, 0, none⟩)), (.pointer (some ⟨g_f3, 0, none⟩)), (.pointer (some ⟨g_f4, 0, none⟩))])] 115 (0, 0))] [rowO 3 encInt A798 c799 t793.Cells, blk g_f1 (.cells #[(.slice A_f1 f1.length c_f1)] 82 (0, 0)), rowO 88 encN_Row A_f1 c_f1 (tag H_f1 f1), poolO [nestO subN_Row H_f1 f1], blk g_f3 (.cells #[(.slice A_f3 f3.length c_f3)] 36 (0, 0)), rowO 3 encInt A_f3 c_f3 f3] := hS792.call hk_ [] [0, 1, 2, 3, 4] (fun g hg => hg.elim) (by simp) (by decide)
    refine ⟨⟨hS797.cell 1 rfl 0 rfl, trivial⟩, ?_⟩
    refine WL.new hS797 16 [] (fun g => (.slice (some ⟨g, 0, none⟩) 1 1)) (.cells #[(.slice A798 t793.Cells.length c799), (.int .i64 t793.South.e0), (.int .i64 t793.South.e1), (.int .i64 t793.South.e2), (.int .i64 t793.South.e3), (.int .i64 t793.South.e4), (.int .i64 t793.South.e5), (.int .i64 t793.South.e6), (.int .i64 t793.South.e7), (.int .i64 t793.North.e0), (.int .i64 t793.North.e1), (.int .i64 t793.North.e2), (.int .i64 t793.North.e3), (.int .i64 t793.North.e4), (.int .i64 t793.North.e5), (.int .i64 t793.North.e6), (.int .i64 t793.North.e7), (.int .i64 t793.West), (.int .i64 t793.East)] 88 (0, 0)) [] (fun fb g => by kernel_rfl) trivial (fun g800 w801 hS802 => ?_)
    refine ⟨⟨hS802.cell 2 rfl 0 rfl, trivial⟩, ?_⟩
    have hS804 : St (fpL [blk g_f1 (.cells #[(.slice A_f1 f1.length c_f1)] 82 (0, 0)), rowO 88 encN_Row A_f1 c_f1 (tag H_f1 f1), poolO [nestO subN_Row H_f1 f1], blk g_f3 (.cells #[(.slice A_f3 f3.length c_f3)] 36 (0, 0)), rowO 3 encInt A_f3 c_f3 f3]) w w801 [blk g_f0 (.cells #[(.int .i64 f0)] 3 (0, 0)), blk g_f2 (.cells #[(.slice A_f2 f2.length c_f2)] 22 (0, 0)), rowR enc_Tile A_f2 c_f2 f2, blk g_f4 (.cells #[(.func (.func 82) #[] #[(.pointer (some ⟨g_f0, 0, none⟩)), (.pointer (some ⟨g_f1, 0, none⟩)), (.pointer (some ⟨g_f2, 0, none⟩)), (.pointer (some ⟨g_f3, 0, none⟩)), (.pointer (some ⟨g_f4, 0, none⟩))])] 115 (0, 0))] [rowO 88 encN_Row (some ⟨g800, 0, none⟩) 1 [((hd1 A798 c799), t793)], rowO 3 encInt A798 c799 t793.Cells, blk g_f1 (.cells #[(.slice A_f1 f1.length c_f1)] 82 (0, 0)), rowO 88 encN_Row A_f1 c_f1 (tag H_f1 f1), poolO [nestO subN_Row H_f1 f1], blk g_f3 (.cells #[(.slice A_f3 f3.length c_f3)] 36 (0, 0)), rowO 3 encInt A_f3 c_f3 f3] := hS802.map1 0 _ (fun h => rowO.ofBlk h rfl (Nat.le_of_ble_eq_true (by kernel_rfl))) (fun _ h => by obtain ⟨_, h1, h2⟩ := h; injection h1 with h1; subst h1; exact h2) [1, 2, 3, 4, 5, 6] (by decide) (by decide)
    obtain ⟨h805, hf⟩ := as_some hf
    refine WL.appendN hS804 3 (d := 17) (tS := 82) (z := (.agg #[(.slice none 0 0), (.int .i64 0), (.int .i64 0), (.int .i64 0), (.int .i64 0), (.int .i64 0), (.int .i64 0), (.int .i64 0), (.int .i64 0), (.int .i64 0), (.int .i64 0), (.int .i64 0), (.int .i64 0), (.int .i64 0), (.int .i64 0), (.int .i64 0), (.int .i64 0), (.int .i64 0), (.int .i64 0)])) (bytes := 168) (c2 := 1) (hx := (hd1 A798 c799)) (x := t793) rfl (fun fb => by kernel_rfl) (rowO.rd (hS804.own 0).1) (by kernel_rfl) (by kernel_rfl) rfl (by decide) h805 (by decide) [0, 1, 2, 4, 5, 6] (by decide) (by decide) (fun A806 c807 w808 hS809 => ?_)
    have hS810 : St (fpL [blk g_f1 (.cells #[(.slice A_f1 f1.length c_f1)] 82 (0, 0)), rowO 88 encN_Row A_f1 c_f1 (tag H_f1 f1), poolO [nestO subN_Row H_f1 f1], blk g_f3 (.cells #[(.slice A_f3 f3.length c_f3)] 36 (0, 0)), rowO 3 encInt A_f3 c_f3 f3]) w w808 [blk g_f0 (.cells #[(.int .i64 f0)] 3 (0, 0)), blk g_f2 (.cells #[(.slice A_f2 f2.length c_f2)] 22 (0, 0)), rowR enc_Tile A_f2 c_f2 f2, blk g_f4 (.cells #[(.func (.func 82) #[] #[(.pointer (some ⟨g_f0, 0, none⟩)), (.pointer (some ⟨g_f1, 0, none⟩)), (.pointer (some ⟨g_f2, 0, none⟩)), (.pointer (some ⟨g_f3, 0, none⟩)), (.pointer (some ⟨g_f4, 0, none⟩))])] 115 (0, 0))] [poolO [nestO subN_Row (updH H_f1 f1.length (hd1 A798 c799)) (f1 ++ [t793])], rowO 88 encN_Row A806 c807 (tag (updH H_f1 f1.length (hd1 A798 c799)) (f1 ++ [t793])), rowO 88 encN_Row (some ⟨g800, 0, none⟩) 1 [((hd1 A798 c799), t793)], blk g_f1 (.cells #[(.slice A_f1 f1.length c_f1)] 82 (0, 0)), blk g_f3 (.cells #[(.slice A_f3 f3.length c_f3)] 36 (0, 0)), rowO 3 encInt A_f3 c_f3 f3] := hS809.poolPush 4 rfl 0 (by simp) rfl (hd1 A798 c799) t793 (hS809.ow 2).ofO [2] (fun g hg => ⟨2, by simp, rowO.fpR (hS809.own 2).1 g hg⟩) _ rfl [0, 1, 3, 5, 6] (by decide) (by decide)
    refine ⟨trivial, ?_⟩
    refine WL.store hS810 3 rfl [(0, (.slice A806 (f1 ++ [t793]).length c807))] #[(.slice A806 (f1 ++ [t793]).length c807)] (fun fb => by kernel_rfl) (by kernel_rfl) rfl [0, 1, 2, 4, 5] (by decide) (by decide) (fun w811 hS812 => ?_)
    refine ⟨trivial, ?_⟩
    refine WL.done rfl ?_
    refine WX.next ?_
    refine WC.ret ?_
    injection hf with hf
    subst hf
    exact WX.thenR (WX.ret_ [] (.tuple #[]) [] (fun fb => by kernel_rfl) trivial ⟨_, rfl, A806, c807, (updH H_f1 f1.length (hd1 A798 c799)), A_f3, c_f3, rfl, (hS812.sub [0, 2, 1, 4, 5] (by decide)).noR⟩)
  refine WC.condF2 (fun fb => by kernel_rfl) h770 ?_
  refine WC.skip ?_
  refine WX.next ?_
  refine WC.seq ?_
  refine WC.region ?_
  refine seg 3 [.v (.slice A_f2 f2.length c_f2)] [0, 2, 3, 4, 5, 18, 19, 20] [(0, (.int .i64 p0)), (2, (.pointer (some ⟨g_f1, 0, none⟩))), (3, (.pointer (some ⟨g_f2, 0, none⟩))), (4, (.pointer (some ⟨g_f3, 0, none⟩))), (5, (.pointer (some ⟨g_f4, 0, none⟩))), (18, (.slice A_f2 f2.length c_f2)), (19, (.int .i64 (f2.length : Int))), (20, (.int .i64 0))] [.cell ⟨g_f2, 0, none⟩ (.slice A_f2 f2.length c_f2)] (fun fb => by kernel_rfl) rfl ⟨blk_cell (hS.rd 1).1 0 rfl, trivial⟩ ?_
  refine WL.done rfl ?_
  refine WX.next ?_
  obtain ⟨x996, hx997, hf⟩ := bind_some hf
  refine WC.cutN (T := ((List Row) × (List Int)) × (Option Addr) × Nat × (Nat → HF) × (Option Addr) × Nat) (fun t => [(2, (.pointer (some ⟨g_f1, 0, none⟩))), (4, (.pointer (some ⟨g_f3, 0, none⟩)))]) (fun t w1 => St (fpL [blk g_f1 (.cells #[(.slice A_f1 f1.length c_f1)] 82 (0, 0)), rowO 88 encN_Row A_f1 c_f1 (tag H_f1 f1), poolO [nestO subN_Row H_f1 f1], blk g_f3 (.cells #[(.slice A_f3 f3.length c_f3)] 36 (0, 0)), rowO 3 encInt A_f3 c_f3 f3]) w w1 [blk g_f0 (.cells #[(.int .i64 f0)] 3 (0, 0)), blk g_f2 (.cells #[(.slice A_f2 f2.length c_f2)] 22 (0, 0)), rowR enc_Tile A_f2 c_f2 f2, blk g_f4 (.cells #[(.func (.func 82) #[] #[(.pointer (some ⟨g_f0, 0, none⟩)), (.pointer (some ⟨g_f1, 0, none⟩)), (.pointer (some ⟨g_f2, 0, none⟩)), (.pointer (some ⟨g_f3, 0, none⟩)), (.pointer (some ⟨g_f4, 0, none⟩))])] 115 (0, 0))] [blk g_f1 (.cells #[(.slice t.2.1 t.1.1.length t.2.2.1)] 82 (0, 0)), rowO 88 encN_Row t.2.1 t.2.2.1 (tag t.2.2.2.1 t.1.1), poolO [nestO subN_Row t.2.2.2.1 t.1.1], blk g_f3 (.cells #[(.slice t.2.2.2.2.1 t.1.2.length t.2.2.2.2.2)] 36 (0, 0)), rowO 3 encInt t.2.2.2.2.1 t.2.2.2.2.2 t.1.2] ∧ x996 = t.1) (fun Kx996 => ?_) ?_
  ·
    refine WC.block ?_
    refine WC.loop (T := ((List Row) × (List Int) × Int) × (Option Addr) × Nat × (Nat → HF) × (Option Addr) × Nat) (fun t => [(0, (.int .i64 p0)), (2, (.pointer (some ⟨g_f1, 0, none⟩))), (3, (.pointer (some ⟨g_f2, 0, none⟩))), (4, (.pointer (some ⟨g_f3, 0, none⟩))), (5, (.pointer (some ⟨g_f4, 0, none⟩))), (18, (.slice A_f2 f2.length c_f2)), (19, (.int .i64 (f2.length : Int))), (20, (.int .i64 t.1.2.2))]) (fun n t w1 => St (fpL [blk g_f1 (.cells #[(.slice A_f1 f1.length c_f1)] 82 (0, 0)), rowO 88 encN_Row A_f1 c_f1 (tag H_f1 f1), poolO [nestO subN_Row H_f1 f1], blk g_f3 (.cells #[(.slice A_f3 f3.length c_f3)] 36 (0, 0)), rowO 3 encInt A_f3 c_f3 f3]) w w1 [blk g_f0 (.cells #[(.int .i64 f0)] 3 (0, 0)), blk g_f2 (.cells #[(.slice A_f2 f2.length c_f2)] 22 (0, 0)), rowR enc_Tile A_f2 c_f2 f2, blk g_f4 (.cells #[(.func (.func 82) #[] #[(.pointer (some ⟨g_f0, 0, none⟩)), (.pointer (some ⟨g_f1, 0, none⟩)), (.pointer (some ⟨g_f2, 0, none⟩)), (.pointer (some ⟨g_f3, 0, none⟩)), (.pointer (some ⟨g_f4, 0, none⟩))])] 115 (0, 0))] [blk g_f1 (.cells #[(.slice t.2.1 t.1.1.length t.2.2.1)] 82 (0, 0)), rowO 88 encN_Row t.2.1 t.2.2.1 (tag t.2.2.2.1 t.1.1), poolO [nestO subN_Row t.2.2.2.1 t.1.1], blk g_f3 (.cells #[(.slice t.2.2.2.2.1 t.1.2.1.length t.2.2.2.2.2)] 36 (0, 0)), rowO 3 encInt t.2.2.2.2.1 t.2.2.2.2.2 t.1.2.1] ∧ rows_All_1.l0 n t.1.1 t.1.2.1 t.1.2.2 p0 f0 f2 rc_ = some x996) k ((f1, f3, 0), A_f1, c_f1, H_f1, A_f3, c_f3) [0, 2, 3, 4, 5, 18, 19, 20] rfl ⟨(hS.subR [0, 1, 2, 3]).sub [0, 1, 2, 3, 4] (by decide), hx997⟩ ?_
    rintro k998 ⟨⟨l983, l987, x988⟩, A981, c982, H984, A985, c986⟩ w999 ⟨hS1000, hl1001⟩
    cases k998 with
    | zero => rw [rows_All_1.l0] at hl1001; cases hl1001
    | succ k998 =>
      rw [rows_All_1.l0] at hl1001
      refine WC.seq ?_
      refine WC.region ?_
      refine seg 1 [] [0, 2, 3, 4, 5, 18, 19, 20, 21] [(0, (.int .i64 p0)), (2, (.pointer (some ⟨g_f1, 0, none⟩))), (3, (.pointer (some ⟨g_f2, 0, none⟩))), (4, (.pointer (some ⟨g_f3, 0, none⟩))), (5, (.pointer (some ⟨g_f4, 0, none⟩))), (18, (.slice A_f2 f2.length c_f2)), (19, (.int .i64 (f2.length : Int))), (20, (.int .i64 x988)), (21, (.bool (decide (x988 < (f2.length : Int)))))] [] (fun fb => by kernel_rfl) rfl trivial ?_
      refine WL.done rfl ?_
      refine WX.next ?_
      refine WC.seq ?_
      rcases br_some hl1001 with ⟨h1002, hl1001⟩ | ⟨h1002, hl1001⟩
      · refine WC.condT2 (fun fb => by kernel_rfl) h1002 ?_
        refine WC.skip ?_
        refine WX.next ?_
        refine WC.seq ?_
        refine WC.block ?_
        refine WC.seq ?_
        refine WC.region ?_
        refine seg 1 [] [0, 2, 3, 4, 5, 18, 19, 20, 22] [(0, (.int .i64 p0)), (2, (.pointer (some ⟨g_f1, 0, none⟩))), (3, (.pointer (some ⟨g_f2, 0, none⟩))), (4, (.pointer (some ⟨g_f3, 0, none⟩))), (5, (.pointer (some ⟨g_f4, 0, none⟩))), (18, (.slice A_f2 f2.length c_f2)), (19, (.int .i64 (f2.length : Int))), (20, (.int .i64 x988)), (22, (.int .i64 x988))] [] (fun fb => by kernel_rfl) rfl trivial ?_
        obtain ⟨h1003, hl1001⟩ := as_some hl1001
        refine seg 3 [.v (.int .i64 ((rdD f2 x988 z_Tile).N)), .v (.int .i64 ((rdD f2 x988 z_Tile).E)), .v (.int .i64 ((rdD f2 x988 z_Tile).S)), .v (.int .i64 ((rdD f2 x988 z_Tile).W))] [0, 2, 3, 4, 5, 18, 19, 20, 22, 24] [(0, (.int .i64 p0)), (2, (.pointer (some ⟨g_f1, 0, none⟩))), (3, (.pointer (some ⟨g_f2, 0, none⟩))), (4, (.pointer (some ⟨g_f3, 0, none⟩))), (5, (.pointer (some ⟨g_f4, 0, none⟩))), (18, (.slice A_f2 f2.length c_f2)), (19, (.int .i64 (f2.length : Int))), (20, (.int .i64 x988)), (22, (.int .i64 x988)), (24, (.agg #[(.int .i64 ((rdD f2 x988 z_Tile).N)), (.int .i64 ((rdD f2 x988 z_Tile).E)), (.int .i64 ((rdD f2 x988 z_Tile).S)), (.int .i64 ((rdD f2 x988 z_Tile).W))]))] [.idx A_f2 x988 f2.length, .cell ((adr A_f2).add ((x988).toNat * 4)) (.int .i64 ((rdD f2 x988 z_Tile).N)), .cell (((adr A_f2).add ((x988).toNat * 4)).add 1) (.int .i64 ((rdD f2 x988 z_Tile).E)), .cell (((adr A_f2).add ((x988).toNat * 4)).add 2) (.int .i64 ((rdD f2 x988 z_Tile).S)), .cell (((adr A_f2).add ((x988).toNat * 4)).add 3) (.int .i64 ((rdD f2 x988 z_Tile).W))] (fun fb => by kernel_rfl) rfl ⟨rowR.adr (hS1000.rd 2).1 h1003.1 h1003.2, rowR.cell (hS1000.rd 2).1 z_Tile h1003.1 h1003.2 0 rfl, rowR.cell (hS1000.rd 2).1 z_Tile h1003.1 h1003.2 1 rfl, rowR.cell (hS1000.rd 2).1 z_Tile h1003.1 h1003.2 2 rfl, rowR.cell (hS1000.rd 2).1 z_Tile h1003.1 h1003.2 3 rfl, trivial⟩ ?_
        refine WL.new hS1000 8 [] (fun g => (.pointer (some ⟨g, 0, none⟩))) (.cells #[(.int .i64 0), (.int .i64 0), (.int .i64 0), (.int .i64 0)] 24 (0, 0)) [] (fun fb g => by kernel_rfl) trivial (fun g1004 w1005 hS1006 => ?_)
        refine ⟨trivial, ?_⟩
        refine seg 5 [] [0, 2, 3, 4, 5, 7, 8, 18, 19, 20, 24] [(0, (.int .i64 p0)), (2, (.pointer (some ⟨g_f1, 0, none⟩))), (3, (.pointer (some ⟨g_f2, 0, none⟩))), (4, (.pointer (some ⟨g_f3, 0, none⟩))), (5, (.pointer (some ⟨g_f4, 0, none⟩))), (7, (.int .i64 x988)), (8, (.pointer (some ⟨g1004, 0, none⟩))), (18, (.slice A_f2 f2.length c_f2)), (19, (.int .i64 (f2.length : Int))), (20, (.int .i64 x988)), (24, (.agg #[(.int .i64 ((rdD f2 x988 z_Tile).N)), (.int .i64 ((rdD f2 x988 z_Tile).E)), (.int .i64 ((rdD f2 x988 z_Tile).S)), (.int .i64 ((rdD f2 x988 z_Tile).W))]))] [] (fun fb => by kernel_rfl) rfl trivial ?_
        refine WL.store hS1006 0 rfl [(0, (.int .i64 ((rdD f2 x988 z_Tile).N))), (1, (.int .i64 ((rdD f2 x988 z_Tile).E))), (2, (.int .i64 ((rdD f2 x988 z_Tile).S))), (3, (.int .i64 ((rdD f2 x988 z_Tile).W)))] #[(.int .i64 ((rdD f2 x988 z_Tile).N)), (.int .i64 ((rdD f2 x988 z_Tile).E)), (.int .i64 ((rdD f2 x988 z_Tile).S)), (.int .i64 ((rdD f2 x988 z_Tile).W))] (fun fb => by kernel_rfl) (by kernel_rfl) rfl [1, 2, 3, 4, 5] (by decide) (by decide) (fun w1008 hS1009 => ?_)
        refine ⟨trivial, ?_⟩
        refine WL.done rfl ?_
        refine WX.next ?_
        refine WC.seq ?_
        obtain ⟨x1022, hx1023, hl1001⟩ := bind_some hl1001
        refine WC.cutN (T := Bool) (fun t => [(0, (.int .i64 p0)), (2, (.pointer (some ⟨g_f1, 0, none⟩))), (3, (.pointer (some ⟨g_f2, 0, none⟩))), (4, (.pointer (some ⟨g_f3, 0, none⟩))), (5, (.pointer (some ⟨g_f4, 0, none⟩))), (7, (.int .i64 x988)), (18, (.slice A_f2 f2.length c_f2)), (19, (.int .i64 (f2.length : Int))), (20, (.int .i64 x988)), (40, (.bool t))]) (fun t w1 => St (fpL [blk g_f1 (.cells #[(.slice A_f1 f1.length c_f1)] 82 (0, 0)), rowO 88 encN_Row A_f1 c_f1 (tag H_f1 f1), poolO [nestO subN_Row H_f1 f1], blk g_f3 (.cells #[(.slice A_f3 f3.length c_f3)] 36 (0, 0)), rowO 3 encInt A_f3 c_f3 f3]) w w1 [blk g_f0 (.cells #[(.int .i64 f0)] 3 (0, 0)), blk g_f2 (.cells #[(.slice A_f2 f2.length c_f2)] 22 (0, 0)), rowR enc_Tile A_f2 c_f2 f2, blk g_f4 (.cells #[(.func (.func 82) #[] #[(.pointer (some ⟨g_f0, 0, none⟩)), (.pointer (some ⟨g_f1, 0, none⟩)), (.pointer (some ⟨g_f2, 0, none⟩)), (.pointer (some ⟨g_f3, 0, none⟩)), (.pointer (some ⟨g_f4, 0, none⟩))])] 115 (0, 0))] [blk g_f1 (.cells #[(.slice A981 l983.length c982)] 82 (0, 0)), rowO 88 encN_Row A981 c982 (tag H984 l983), poolO [nestO subN_Row H984 l983], blk g_f3 (.cells #[(.slice A985 l987.length c986)] 36 (0, 0)), rowO 3 encInt A985 c986 l987] ∧ x1022 = t) (fun Kx1022 => ?_) ?_
        ·
          rcases br_some hx1023 with ⟨h1024, hx1023⟩ | ⟨h1024, hx1023⟩
          ·
            refine WC.regionD ([], [0, 1, 2, 3, 4, 5, 6, 7, 8, 9, 10, 11, 12, 13, 14, 15], [[], [0], [0, 1], [0, 1, 2], [0, 1, 2], [0, 1, 2], [0, 1, 2, 5], [0, 1, 2, 4, 5, 6], [0, 1, 2, 4, 5, 6, 7], [0, 1, 2, 3, 4, 5, 6, 7, 8], [0, 1, 2, 3, 4, 5, 6, 7, 8, 9], [0, 1, 2, 3, 4, 5, 6, 7, 8, 9, 10], [0, 1, 2], [0, 1, 2, 12], [0, 1, 2, 3, 4, 5, 6, 7, 8, 9, 10, 11, 12, 13], [0, 1, 2, 3, 4, 5, 6, 7, 8, 9, 10, 11, 12, 13, 14]]) [[0, 1, 2, 3, 4, 5, 6, 7, 8, 9, 10, 11, 12, 13, 14, 15]] (by kernel_rfl) (by kernel_rfl) (NoPanic.seq (NoPanic.block (NoPanic.seq (NoPanic.seq (NoPanic.block (NoPanic.body)))))) ?_
            have hS1026 := hS1009.drew
            revert hS1026
            generalize World.drew w1008 = w1025
            intro hS1026
            refine ⟨trivial, forallC ?_ (forallN)⟩
            refine seg 3 [] [0, 2, 3, 4, 5, 7, 8, 18, 19, 20, 27] [(0, (.int .i64 p0)), (2, (.pointer (some ⟨g_f1, 0, none⟩))), (3, (.pointer (some ⟨g_f2, 0, none⟩))), (4, (.pointer (some ⟨g_f3, 0, none⟩))), (5, (.pointer (some ⟨g_f4, 0, none⟩))), (7, (.int .i64 x988)), (8, (.pointer (some ⟨g1004, 0, none⟩))), (18, (.slice A_f2 f2.length c_f2)), (19, (.int .i64 (f2.length : Int))), (20, (.int .i64 x988)), (27, (.bool (p0 == 0)))] [] (fun fb => by kernel_rfl) rfl trivial ?_
            refine WL.setB 27 h1024 rfl ?_
            refine seg 16 [] [0, 2, 3, 4, 5, 7, 18, 19, 20, 40] [(0, (.int .i64 p0)), (2, (.pointer (some ⟨g_f1, 0, none⟩))), (3, (.pointer (some ⟨g_f2, 0, none⟩))), (4, (.pointer (some ⟨g_f3, 0, none⟩))), (5, (.pointer (some ⟨g_f4, 0, none⟩))), (7, (.int .i64 x988)), (18, (.slice A_f2 f2.length c_f2)), (19, (.int .i64 (f2.length : Int))), (20, (.int .i64 x988)), (40, (.bool true))] [] (fun fb => by kernel_rfl) rfl trivial ?_
            refine WL.done rfl ?_
            injection hx1023 with hx1023
            exact WX.to Kx1022 true [0, 2, 3, 4, 5, 7, 18, 19, 20, 40] rfl ⟨(hS1026.subR [0, 1, 2, 3]).sub [1, 2, 3, 4, 5] (by decide), hx1023.symm⟩
          obtain ⟨h1033, hx1023⟩ := as_some hx1023
          obtain ⟨h1034, hx1023⟩ := as_some hx1023
          refine WC.regionD ([(3, ⟨g_f2, 0, none⟩, (.slice A_f2 f2.length c_f2)), (4, ⟨g_f3, 0, none⟩, (.slice A985 l987.length c986)), (8, ((adr A985).add ((w64 (p0 - 1)).toNat * 1)), (.int .i64 (rdD l987 (w64 (p0 - 1)) 0))), (11, (((adr A_f2).add (((rdD l987 (w64 (p0 - 1)) 0)).toNat * 4)).add 1), (.int .i64 ((rdD f2 (rdD l987 (w64 (p0 - 1)) 0) z_Tile).E))), (13, ⟨g1004, 3, none⟩, (.int .i64 ((rdD f2 x988 z_Tile).W)))], [0, 1, 2, 3, 4, 5, 6, 7, 8, 9, 10, 11, 12, 13, 14, 15], [[], [0], [0, 1], [0, 1, 2], [0, 1, 2], [0, 1, 2], [0, 1, 2, 5], [0, 1, 2, 4, 5, 6], [0, 1, 2, 4, 5, 6, 7], [0, 1, 2, 3, 4, 5, 6, 7, 8], [0, 1, 2, 3, 4, 5, 6, 7, 8, 9], [0, 1, 2, 3, 4, 5, 6, 7, 8, 9, 10], [0, 1, 2], [0, 1, 2, 12], [0, 1, 2, 3, 4, 5, 6, 7, 8, 9, 10, 11, 12, 13], [0, 1, 2, 3, 4, 5, 6, 7, 8, 9, 10, 11, 12, 13, 14]]) [[0, 1, 2, 3, 4, 5, 6, 7, 8, 9, 10, 11, 12, 13, 14, 15]] (by kernel_rfl) (by kernel_rfl) (NoPanic.seq (NoPanic.block (NoPanic.seq (NoPanic.seq (NoPanic.block (NoPanic.body)))))) ?_
          have hS1030 := hS1009.drew
          revert hS1030
          generalize World.drew w1008 = w1029
          intro hS1030
          refine ⟨⟨blk_cell (hS1030.rd 1).1 0 rfl, hS1030.cell 4 rfl 0 rfl, rowR.cell (rowO.rd (hS1030.own 5).1) 0 h1033.1 h1033.2 0 rfl, rowR.cell (hS1030.rd 2).1 z_Tile h1034.1 h1034.2 1 rfl, hS1030.cell 0 rfl 3 rfl, trivial⟩, forallC ?_ (forallN)⟩
          refine seg 3 [] [0, 2, 3, 4, 5, 7, 8, 18, 19, 20, 27] [(0, (.int .i64 p0)), (2, (.pointer (some ⟨g_f1, 0, none⟩))), (3, (.pointer (some ⟨g_f2, 0, none⟩))), (4, (.pointer (some ⟨g_f3, 0, none⟩))), (5, (.pointer (some ⟨g_f4, 0, none⟩))), (7, (.int .i64 x988)), (8, (.pointer (some ⟨g1004, 0, none⟩))), (18, (.slice A_f2 f2.length c_f2)), (19, (.int .i64 (f2.length : Int))), (20, (.int .i64 x988)), (27, (.bool (p0 == 0)))] [] (fun fb => by kernel_rfl) rfl trivial ?_
          refine WL.setB 27 h1024 rfl ?_
          refine segF 16 [.v (.slice A_f2 f2.length c_f2), .v (.slice A985 l987.length c986), .v (.int .i64 (rdD l987 (w64 (p0 - 1)) 0)), .v (.int .i64 ((rdD f2 (rdD l987 (w64 (p0 - 1)) 0) z_Tile).E)), .v (.int .i64 ((rdD f2 x988 z_Tile).W))] [0, 2, 3, 4, 5, 7, 18, 19, 20, 40] [(0, (.int .i64 p0)), (2, (.pointer (some ⟨g_f1, 0, none⟩))), (3, (.pointer (some ⟨g_f2, 0, none⟩))), (4, (.pointer (some ⟨g_f3, 0, none⟩))), (5, (.pointer (some ⟨g_f4, 0, none⟩))), (7, (.int .i64 x988)), (18, (.slice A_f2 f2.length c_f2)), (19, (.int .i64 (f2.length : Int))), (20, (.int .i64 x988)), (40, (.bool (((rdD f2 (rdD l987 (w64 (p0 - 1)) 0) z_Tile).E) == ((rdD f2 x988 z_Tile).W))))] [.idx A985 (w64 (p0 - 1)) l987.length, .idx A_f2 (rdD l987 (w64 (p0 - 1)) 0) f2.length] [0, 1, 2, 3, 4] [(3, ⟨g_f2, 0, none⟩, (.slice A_f2 f2.length c_f2)), (4, ⟨g_f3, 0, none⟩, (.slice A985 l987.length c986)), (8, ((adr A985).add ((w64 (p0 - 1)).toNat * 1)), (.int .i64 (rdD l987 (w64 (p0 - 1)) 0))), (11, (((adr A_f2).add (((rdD l987 (w64 (p0 - 1)) 0)).toNat * 4)).add 1), (.int .i64 ((rdD f2 (rdD l987 (w64 (p0 - 1)) 0) z_Tile).E))), (13, ⟨g1004, 3, none⟩, (.int .i64 ((rdD f2 x988 z_Tile).W)))] (fun fb => by kernel_rfl) rfl ⟨rowR.adr (rowO.rd (hS1030.own 5).1) h1033.1 h1033.2, rowR.adr (hS1030.rd 2).1 h1034.1 h1034.2, trivial⟩ rfl ?_
          refine WL.done rfl ?_
          injection hx1023 with hx1023
          exact WX.to Kx1022 (((rdD f2 (rdD l987 (w64 (p0 - 1)) 0) z_Tile).E) == ((rdD f2 x988 z_Tile).W)) [0, 2, 3, 4, 5, 7, 18, 19, 20, 40] rfl ⟨(hS1030.subR [0, 1, 2, 3]).sub [1, 2, 3, 4, 5] (by decide), hx1023.symm⟩
        rintro y1038 w1035 ⟨hS1036, hq1037⟩
        subst hq1037
        refine WX.next ?_
        obtain ⟨x1061, hx1062, hl1001⟩ := bind_some hl1001
        refine WC.cutN (T := ((List Row) × (List Int)) × (Option Addr) × Nat × (Nat → HF) × (Option Addr) × Nat) (fun t => [(0, (.int .i64 p0)), (2, (.pointer (some ⟨g_f1, 0, none⟩))), (3, (.pointer (some ⟨g_f2, 0, none⟩))), (4, (.pointer (some ⟨g_f3, 0, none⟩))), (5, (.pointer (some ⟨g_f4, 0, none⟩))), (18, (.slice A_f2 f2.length c_f2)), (19, (.int .i64 (f2.length : Int))), (20, (.int .i64 x988))]) (fun t w1 => St (fpL [blk g_f1 (.cells #[(.slice A_f1 f1.length c_f1)] 82 (0, 0)), rowO 88 encN_Row A_f1 c_f1 (tag H_f1 f1), poolO [nestO subN_Row H_f1 f1], blk g_f3 (.cells #[(.slice A_f3 f3.length c_f3)] 36 (0, 0)), rowO 3 encInt A_f3 c_f3 f3]) w w1 [blk g_f0 (.cells #[(.int .i64 f0)] 3 (0, 0)), blk g_f2 (.cells #[(.slice A_f2 f2.length c_f2)] 22 (0, 0)), rowR enc_Tile A_f2 c_f2 f2, blk g_f4 (.cells #[(.func (.func 82) #[] #[(.pointer (some ⟨g_f0, 0, none⟩)), (.pointer (some ⟨g_f1, 0, none⟩)), (.pointer (some ⟨g_f2, 0, none⟩)), (.pointer (some ⟨g_f3, 0, none⟩)), (.pointer (some ⟨g_f4, 0, none⟩))])] 115 (0, 0))] [blk g_f1 (.cells #[(.slice t.2.1 t.1.1.length t.2.2.1)] 82 (0, 0)), rowO 88 encN_Row t.2.1 t.2.2.1 (tag t.2.2.2.1 t.1.1), poolO [nestO subN_Row t.2.2.2.1 t.1.1], blk g_f3 (.cells #[(.slice t.2.2.2.2.1 t.1.2.length t.2.2.2.2.2)] 36 (0, 0)), rowO 3 encInt t.2.2.2.2.1 t.2.2.2.2.2 t.1.2] ∧ x1061 = t.1) (fun Kx1061 => ?_) ?_
        ·
          rcases br_some hx1062 with ⟨h1063, hx1062⟩ | ⟨h1063, hx1062⟩
          · refine WC.condT2 (fun fb => by kernel_rfl) h1063 ?_
            refine WC.seq ?_
            refine WC.region ?_
            refine seg 3 [.v (.slice A985 l987.length c986)] [0, 2, 3, 4, 5, 18, 19, 20, 41, 42, 43] [(0, (.int .i64 p0)), (2, (.pointer (some ⟨g_f1, 0, none⟩))), (3, (.pointer (some ⟨g_f2, 0, none⟩))), (4, (.pointer (some ⟨g_f3, 0, none⟩))), (5, (.pointer (some ⟨g_f4, 0, none⟩))), (18, (.slice A_f2 f2.length c_f2)), (19, (.int .i64 (f2.length : Int))), (20, (.int .i64 x988)), (41, (.slice A985 l987.length c986)), (42, (.int .i64 p0)), (43, (.int .i64 x988))] [.cell ⟨g_f3, 0, none⟩ (.slice A985 l987.length c986)] (fun fb => by kernel_rfl) rfl ⟨hS1036.cell 3 rfl 0 rfl, trivial⟩ ?_
            obtain ⟨h1064, hx1062⟩ := as_some hx1062
            refine seg 4 [] [0, 2, 3, 4, 5, 18, 19, 20, 43, 44] [(0, (.int .i64 p0)), (2, (.pointer (some ⟨g_f1, 0, none⟩))), (3, (.pointer (some ⟨g_f2, 0, none⟩))), (4, (.pointer (some ⟨g_f3, 0, none⟩))), (5, (.pointer (some ⟨g_f4, 0, none⟩))), (18, (.slice A_f2 f2.length c_f2)), (19, (.int .i64 (f2.length : Int))), (20, (.int .i64 x988)), (43, (.int .i64 x988)), (44, (.pointer (some ((adr A985).add ((p0).toNat * 1)))))] [.idx A985 p0 l987.length] (fun fb => by kernel_rfl) rfl ⟨rowR.adr (rowO.rd (hS1036.own 4).1) h1064.1 h1064.2, trivial⟩ ?_
            refine WL.storeRow hS1036 4 rfl (p0) (x988) (0) [(0, (.int .i64 x988))] (fun fb => by kernel_rfl) h1064.1 h1064.2 (by kernel_rfl) rfl [0, 1, 2, 3] (by decide) (by decide) (fun w1065 hS1066 => ?_)
            refine ⟨trivial, ?_⟩
            have hS1067 : St (fpL [blk g_f1 (.cells #[(.slice A_f1 f1.length c_f1)] 82 (0, 0)), rowO 88 encN_Row A_f1 c_f1 (tag H_f1 f1), poolO [nestO subN_Row H_f1 f1], blk g_f3 (.cells #[(.slice A_f3 f3.length c_f3)] 36 (0, 0)), rowO 3 encInt A_f3 c_f3 f3]) w w1065 [blk g_f0 (.cells #[(.int .i64 f0)] 3 (0, 0)), blk g_f2 (.cells #[(.slice A_f2 f2.length c_f2)] 22 (0, 0)), rowR enc_Tile A_f2 c_f2 f2, blk g_f4 (.cells #[(.func (.func 82) #[] #[(.pointer (some ⟨g_f0, 0, none⟩)), (.pointer (some ⟨g_f1, 0, none⟩)), (.pointer (some ⟨g_f2, 0, none⟩)), (.pointer (some ⟨g_f3, 0, none⟩)), (.pointer (some ⟨g_f4, 0, none⟩))])] 115 (0, 0))] [rowO 3 encInt A985 c986 (l987.set (p0).toNat x988), blk g_f1 (.cells #[(.slice A981 l983.length c982)] 82 (0, 0)), rowO 88 encN_Row A981 c982 (tag H984 l983), poolO [nestO subN_Row H984 l983], blk g_f3 (.cells #[(.slice A985 (l987.set (p0).toNat x988).length c986)] 36 (0, 0))] := by simpa only [List.length_set] using (show St (fpL [blk g_f1 (.cells #[(.slice A_f1 f1.length c_f1)] 82 (0, 0)), rowO 88 encN_Row A_f1 c_f1 (tag H_f1 f1), poolO [nestO subN_Row H_f1 f1], blk g_f3 (.cells #[(.slice A_f3 f3.length c_f3)] 36 (0, 0)), rowO 3 encInt A_f3 c_f3 f3]) w w1065 [blk g_f0 (.cells #[(.int .i64 f0)] 3 (0, 0)), blk g_f2 (.cells #[(.slice A_f2 f2.length c_f2)] 22 (0, 0)), rowR enc_Tile A_f2 c_f2 f2, blk g_f4 (.cells #[(.func (.func 82) #[] #[(.pointer (some ⟨g_f0, 0, none⟩)), (.pointer (some ⟨g_f1, 0, none⟩)), (.pointer (some ⟨g_f2, 0, none⟩)), (.pointer (some ⟨g_f3, 0, none⟩)), (.pointer (some ⟨g_f4, 0, none⟩))])] 115 (0, 0))] [rowO 3 encInt A985 c986 (l987.set (p0).toNat x988), blk g_f1 (.cells #[(.slice A981 l983.length c982)] 82 (0, 0)), rowO 88 encN_Row A981 c982 (tag H984 l983), poolO [nestO subN_Row H984 l983], blk g_f3 (.cells #[(.slice A985 l987.length c986)] 36 (0, 0))] from hS1066)
            refine WL.done rfl ?_
            refine WX.next ?_
            refine WC.region ?_
            refine seg 3 [.v (.func (.func 82) #[] #[(.pointer (some ⟨g_f0, 0, none⟩)), (.pointer (some ⟨g_f1, 0, none⟩)), (.pointer (some ⟨g_f2, 0, none⟩)), (.pointer (some ⟨g_f3, 0, none⟩)), (.pointer (some ⟨g_f4, 0, none⟩))])] [0, 2, 3, 4, 5, 18, 19, 20, 45, 47] [(0, (.int .i64 p0)), (2, (.pointer (some ⟨g_f1, 0, none⟩))), (3, (.pointer (some ⟨g_f2, 0, none⟩))), (4, (.pointer (some ⟨g_f3, 0, none⟩))), (5, (.pointer (some ⟨g_f4, 0, none⟩))), (18, (.slice A_f2 f2.length c_f2)), (19, (.int .i64 (f2.length : Int))), (20, (.int .i64 x988)), (45, (.func (.func 82) #[] #[(.pointer (some ⟨g_f0, 0, none⟩)), (.pointer (some ⟨g_f1, 0, none⟩)), (.pointer (some ⟨g_f2, 0, none⟩)), (.pointer (some ⟨g_f3, 0, none⟩)), (.pointer (some ⟨g_f4, 0, none⟩))])), (47, (.int .i64 (w64 (p0 + 1))))] [.cell ⟨g_f4, 0, none⟩ (.func (.func 82) #[] #[(.pointer (some ⟨g_f0, 0, none⟩)), (.pointer (some ⟨g_f1, 0, none⟩)), (.pointer (some ⟨g_f2, 0, none⟩)), (.pointer (some ⟨g_f3, 0, none⟩)), (.pointer (some ⟨g_f4, 0, none⟩))])] (fun fb => by kernel_rfl) rfl ⟨blk_cell (hS1067.rd 3).1 0 rfl, trivial⟩ ?_
            obtain ⟨t1068, ht1069, hx1062⟩ := bind_some hx1062
            refine WL.call (some 48) 82 #[(.int .i64 (w64 (p0 + 1))), (.pointer (some ⟨g_f0, 0, none⟩)), (.pointer (some ⟨g_f1, 0, none⟩)), (.pointer (some ⟨g_f2, 0, none⟩)), (.pointer (some ⟨g_f3, 0, none⟩)), (.pointer (some ⟨g_f4, 0, none⟩))] (fun fb => by kernel_rfl) (ih_ (w64 (p0 + 1)) f0 l983 f2 (l987.set (p0).toNat x988) g_f0 g_f1 A981 c982 H984 g_f2 A_f2 c_f2 g_f3 A985 c986 g_f4 t1068 _ (hS1067.rdT [1, 2, 3, 4, 0] 0) (hS1067.rdT [1, 2, 3, 4, 0] 1) (hS1067.rdT [1, 2, 3, 4, 0] 2) (hS1067.rdT [1, 2, 3, 4, 0] 3) (hS1067.io [1, 2, 3, 4, 0] (by decide)) ht1069) (fun v w1070 hR1071 => ?_)
            obtain ⟨A1073, c1074, H1075, A1076, c1077, rfl, hk_⟩ := hR1071
            have hS1072 : St (fpL [blk g_f1 (.cells #[(.slice A_f1 f1.length c_f1)] 82 (0, 0)), rowO 88 encN_Row A_f1 c_f1 (tag H_f1 f1), poolO [nestO subN_Row H_f1 f1], blk g_f3 (.cells #[(.slice A_f3 f3.length c_f3)] 36 (0, 0)), rowO 3 encInt A_f3 c_f3 f3]) w w1070 [blk g_f0 (.cells #[(.int .i64 f0)] 3 (0, 0)), blk g_f2 (.cells #[(.slice A_f2 f2.length c_f2)] 22 (0, 0)), rowR enc_Tile A_f2 c_f2 f2, blk g_f4 (.cells #[(.func (.func 82) #[] #[(.pointer (some ⟨g_f0, 0, none⟩)), (.pointer (some ⟨g_f1, 0, none⟩)), (.pointer (some ⟨g_f2, 0, none⟩)), (.pointer (some ⟨g_f3, 0, none⟩)), (.pointer (some ⟨g_f4, 0, none⟩))])] 115 (0, 0))] [blk g_f1 (.cells #[(.slice A1073 t1068.1.length c1074)] 82 (0, 0)), rowO 88 encN_Row A1073 c1074 (tag H1075 t1068.1), poolO [nestO subN_Row H1075 t1068.1], blk g_f3 (.cells #[(.slice A1076 t1068.2.length c1077)] 36 (0, 0)), rowO 3 encInt A1076 c1077 t1068.2] := hS1067.call hk_ [1, 2, 3, 4, 0] [] (fun g hg => fpL_sel g hg) (by decide) (by decide)
            refine ⟨trivial, ?_⟩
            refine WL.done rfl ?_
            injection hx1062 with hx1062
            exact WX.to Kx1061 ((t1068.1, t1068.2), A1073, c1074, H1075, A1076, c1077) [0, 2, 3, 4, 5, 18, 19, 20] rfl ⟨(hS1072.subR [0, 1, 2, 3]).sub [0, 1, 2, 3, 4] (by decide), hx1062.symm⟩
          refine WC.condF2 (fun fb => by kernel_rfl) h1063 ?_
          refine WC.skip ?_
          injection hx1062 with hx1062
          exact WX.to Kx1061 ((l983, l987), A981, c982, H984, A985, c986) [0, 2, 3, 4, 5, 18, 19, 20] rfl ⟨(hS1036.subR [0, 1, 2, 3]).sub [0, 1, 2, 3, 4] (by decide), hx1062.symm⟩
        rintro ⟨y1081, A1054, c1055, H1057, A1058, c1059⟩ w1078 ⟨hS1079, hq1080⟩
        subst hq1080
        refine WX.blockN (WX.next ?_)
        refine WC.region ?_
        refine seg 2 [] [0, 2, 3, 4, 5, 18, 19, 20] [(0, (.int .i64 p0)), (2, (.pointer (some ⟨g_f1, 0, none⟩))), (3, (.pointer (some ⟨g_f2, 0, none⟩))), (4, (.pointer (some ⟨g_f3, 0, none⟩))), (5, (.pointer (some ⟨g_f4, 0, none⟩))), (18, (.slice A_f2 f2.length c_f2)), (19, (.int .i64 (f2.length : Int))), (20, (.int .i64 (w64 (x988 + 1))))] [] (fun fb => by kernel_rfl) rfl trivial ?_
        refine WL.done rfl ?_
        exact WX.again k998 (Nat.lt_succ_self _) ((x1061.1, x1061.2, w64 (x988 + 1)), A1054, c1055, H1057, A1058, c1059) [0, 2, 3, 4, 5, 18, 19, 20] rfl ⟨(hS1079.subR [0, 1, 2, 3]).sub [0, 1, 2, 3, 4] (by decide), hl1001⟩
      refine WC.condF2 (fun fb => by kernel_rfl) h1002 ?_
      refine WC.exit ?_
      injection hl1001 with hl1001
      exact WX.thenX (WX.thenX (WX.blockHere (WX.to Kx996 ((l983, l987), A981, c982, H984, A985, c986) [2, 4] rfl ⟨(hS1000.subR [0, 1, 2, 3]).sub [0, 1, 2, 3, 4] (by decide), hl1001.symm⟩)))
  rintro ⟨y1085, A989, c990, H992, A993, c994⟩ w1082 ⟨hS1083, hq1084⟩
  subst hq1084
  injection hf with hf
  subst hf
  exact WX.end_ [] (.tuple #[]) [] (fun fb => by kernel_rfl) trivial ⟨_, rfl, A989, c990, H992, A993, c994, rfl, (hS1083.sub [0, 1, 2, 3, 4] (by decide)).noR⟩
theorem rows_All_calls (k : Nat) (p0 : List Tile) (p1 : Int) (A_p0 : Option Addr) (c_p0 : Nat) (r : (List Row)) (w : World) (hR0 : RO NoS w (rowR enc_Tile A_p0 c_p0 p0)) (hf : rows_All k p0 p1 = some r) :
    CallsR Try.prog 67 #[(.slice A_p0 p0.length c_p0), (.int .i64 p1)] w (fun v w' => ∃ (A1_ : Option Addr), ∃ (c1_ : Nat), ∃ (h1_ : Nat → HF), v = (.slice A1_ r.length c1_) ∧ St NoS w w' [] [rowO 88 encN_Row A1_ c1_ (tag h1_ r), poolO [nestO subN_Row h1_ r]]) := by
  have hS : St NoS w w [rowR enc_Tile A_p0 c_p0 p0] [] := St.init (ro_cons hR0 (ro_nil _ _))
  refine enter 14 Try.func67 rfl Try.ntmps67 rfl ?_
  unfold rows_All at hf
  refine WC.seq ?_
  refine WC.region ?_
  refine WL.new hS 2 [] (fun g => (.pointer (some ⟨g, 0, none⟩))) (.cells #[(.slice A_p0 p0.length c_p0)] 22 (0, 0)) [] (fun fb g => by kernel_rfl) trivial (fun g408 w409 hS410 => ?_)
  refine ⟨trivial, ?_⟩
  refine WL.new hS410 3 [] (fun g => (.pointer (some ⟨g, 0, none⟩))) (.cells #[(.int .i64 p1)] 3 (0, 0)) [] (fun fb g => by kernel_rfl) trivial (fun g412 w413 hS414 => ?_)
  refine ⟨trivial, ?_⟩
  refine seg 3 [] [2, 3] [(2, (.pointer (some ⟨g408, 0, none⟩))), (3, (.pointer (some ⟨g412, 0, none⟩)))] [] (fun fb => by kernel_rfl) rfl trivial ?_
  refine WL.done rfl ?_
  refine WX.next ?_
  refine WC.seq ?_
  refine WC.region ?_
  refine WL.new hS414 5 [] (fun g => (.pointer (some ⟨g, 0, none⟩))) (.cells #[(.slice none 0 0)] 82 (0, 0)) [] (fun fb g => by kernel_rfl) trivial (fun g416 w417 hS418 => ?_)
  refine ⟨trivial, ?_⟩
  refine WL.done rfl ?_
  refine WX.next ?_
  refine WC.seq ?_
  refine WC.region ?_
  refine seg 1 [.v (.int .i64 p1)] [2, 3, 5, 8] [(2, (.pointer (some ⟨g408, 0, none⟩))), (3, (.pointer (some ⟨g412, 0, none⟩))), (5, (.pointer (some ⟨g416, 0, none⟩))), (8, (.int .i64 p1))] [.cell ⟨g412, 0, none⟩ (.int .i64 p1)] (fun fb => by kernel_rfl) rfl ⟨hS418.cell 1 rfl 0 rfl, trivial⟩ ?_
  obtain ⟨h420, hf⟩ := as_some hf
  refine WL.make hS418 (e := encInt) (T := 3) (tS := 36) (z := (.int .i64 0)) (bytes := 8) (d := 9) (0 : Int) p1 (fun fb => by kernel_rfl) (by kernel_rfl) (by kernel_rfl) rfl (by decide) h420 (by decide) (fun g421 w422 hS423 => ?_)
  refine ⟨trivial, ?_⟩
  refine WL.new hS423 6 [] (fun g => (.pointer (some ⟨g, 0, none⟩))) (.cells #[(.slice none 0 0)] 36 (0, 0)) [] (fun fb g => by kernel_rfl) trivial (fun g424 w425 hS426 => ?_)
  refine ⟨trivial, ?_⟩
  refine WL.store hS426 0 rfl [(0, (.slice (some ⟨g421, 0, none⟩) (List.replicate p1.toNat (0 : Int)).length p1.toNat))] #[(.slice (some ⟨g421, 0, none⟩) (List.replicate p1.toNat (0 : Int)).length p1.toNat)] (fun fb => by kernel_rfl) (by kernel_rfl) rfl [1, 2, 3, 4] (by decide) (by decide) (fun w428 hS429 => ?_)
  refine ⟨trivial, ?_⟩
  refine WL.done rfl ?_
  refine WX.next ?_
  refine WC.seq ?_
  refine WC.region ?_
  refine WL.new hS429 7 [] (fun g => (.pointer (some ⟨g, 0, none⟩))) (.cells #[.nilFunc] 115 (0, 0)) [] (fun fb g => by kernel_rfl) trivial (fun g430 w431 hS432 => ?_)
  refine ⟨trivial, ?_⟩
  refine WL.done rfl ?_
  refine WX.next ?_
  refine WC.seq ?_
  refine WC.region ?_
  refine seg 1 [] [5, 7, 10] [(5, (.pointer (some ⟨g416, 0, none⟩))), (7, (.pointer (some ⟨g430, 0, none⟩))), (10, (.func (.func 82) #[] #[(.pointer (some ⟨g412, 0, none⟩)), (.pointer (some ⟨g416, 0, none⟩)), (.pointer (some ⟨g408, 0, none⟩)), (.pointer (some ⟨g424, 0, none⟩)), (.pointer (some ⟨g430, 0, none⟩))]))] [] (fun fb => by kernel_rfl) rfl trivial ?_
  refine WL.store hS432 0 rfl [(0, (.func (.func 82) #[] #[(.pointer (some ⟨g412, 0, none⟩)), (.pointer (some ⟨g416, 0, none⟩)), (.pointer (some ⟨g408, 0, none⟩)), (.pointer (some ⟨g424, 0, none⟩)), (.pointer (some ⟨g430, 0, none⟩))]))] #[(.func (.func 82) #[] #[(.pointer (some ⟨g412, 0, none⟩)), (.pointer (some ⟨g416, 0, none⟩)), (.pointer (some ⟨g408, 0, none⟩)), (.pointer (some ⟨g424, 0, none⟩)), (.pointer (some ⟨g430, 0, none⟩))])] (fun fb => by kernel_rfl) (by kernel_rfl) rfl [1, 2, 3, 4, 5] (by decide) (by decide) (fun w434 hS435 => ?_)
  refine ⟨trivial, ?_⟩
  refine WL.done rfl ?_
  refine WX.next ?_
  refine WC.seq ?_
  refine WC.region ?_
  refine seg 1 [.v (.func (.func 82) #[] #[(.pointer (some ⟨g412, 0, none⟩)), (.pointer (some ⟨g416, 0, none⟩)), (.pointer (some ⟨g408, 0, none⟩)), (.pointer (some ⟨g424, 0, none⟩)), (.pointer (some ⟨g430, 0, none⟩))])] [5, 11] [(5, (.pointer (some ⟨g416, 0, none⟩))), (11, (.func (.func 82) #[] #[(.pointer (some ⟨g412, 0, none⟩)), (.pointer (some ⟨g416, 0, none⟩)), (.pointer (some ⟨g408, 0, none⟩)), (.pointer (some ⟨g424, 0, none⟩)), (.pointer (some ⟨g430, 0, none⟩))]))] [.cell ⟨g430, 0, none⟩ (.func (.func 82) #[] #[(.pointer (some ⟨g412, 0, none⟩)), (.pointer (some ⟨g416, 0, none⟩)), (.pointer (some ⟨g408, 0, none⟩)), (.pointer (some ⟨g424, 0, none⟩)), (.pointer (some ⟨g430, 0, none⟩))])] (fun fb => by kernel_rfl) rfl ⟨hS435.cell 0 rfl 0 rfl, trivial⟩ ?_
  have hS1086 : St NoS w w434 [rowR enc_Tile A_p0 c_p0 p0] [rowO 88 encN_Row none 0 (tag h0 ([] : List Row)), blk g430 (.cells #[(.func (.func 82) #[] #[(.pointer (some ⟨g412, 0, none⟩)), (.pointer (some ⟨g416, 0, none⟩)), (.pointer (some ⟨g408, 0, none⟩)), (.pointer (some ⟨g424, 0, none⟩)), (.pointer (some ⟨g430, 0, none⟩))])] 115 (0, 0)), blk g424 (.cells #[(.slice (some ⟨g421, 0, none⟩) (List.replicate p1.toNat (0 : Int)).length p1.toNat)] 36 (0, 0)), rowO 3 encInt (some ⟨g421, 0, none⟩) p1.toNat (List.replicate p1.toNat (0 : Int)), blk g416 (.cells #[(.slice none 0 0)] 82 (0, 0)), blk g412 (.cells #[(.int .i64 p1)] 3 (0, 0)), blk g408 (.cells #[(.slice A_p0 p0.length c_p0)] 22 (0, 0))] := hS435.nilrow 88 encN_Row
  have hS1087 := hS1086.poolNil subN_Row h0
  obtain ⟨t1088, ht1089, hf⟩ := bind_some hf
  refine WL.call (some 12) 82 #[(.int .i64 0), (.pointer (some ⟨g412, 0, none⟩)), (.pointer (some ⟨g416, 0, none⟩)), (.pointer (some ⟨g408, 0, none⟩)), (.pointer (some ⟨g424, 0, none⟩)), (.pointer (some ⟨g430, 0, none⟩))] (fun fb => by kernel_rfl) (rows_All_1_calls _ 0 p1 ([] : List Row) p0 (List.replicate p1.toNat (0 : Int)) g412 g416 none 0 h0 g408 A_p0 c_p0 g424 (some ⟨g421, 0, none⟩) p1.toNat g430 t1088 _ (hS1087.owT [5, 1, 0, 3, 4] 6 (by decide)) (hS1087.owT [5, 1, 0, 3, 4] 7 (by decide)) (hS1087.rdT [5, 1, 0, 3, 4] 0) (hS1087.owT [5, 1, 0, 3, 4] 2 (by decide)) (hS1087.io [5, 1, 0, 3, 4] (by decide)) ht1089) (fun v w1090 hR1091 => ?_)
  obtain ⟨A1093, c1094, H1095, A1096, c1097, rfl, hk_⟩ := hR1091
  have hS1092 : St NoS w w1090 [rowR enc_Tile A_p0 c_p0 p0] [blk g416 (.cells #[(.slice A1093 t1088.1.length c1094)] 82 (0, 0)), rowO 88 encN_Row A1093 c1094 (tag H1095 t1088.1), poolO [nestO subN_Row H1095 t1088.1], blk g424 (.cells #[(.slice A1096 t1088.2.length c1097)] 36 (0, 0)), rowO 3 encInt A1096 c1097 t1088.2, blk g430 (.cells #[(.func (.func 82) #[] #[(.pointer (some ⟨g412, 0, none⟩)), (.pointer (some ⟨g416, 0, none⟩)), (.pointer (some ⟨g408, 0, none⟩)), (.pointer (some ⟨g424, 0, none⟩)), (.pointer (some ⟨g430, 0, none⟩))])] 115 (0, 0)), blk g412 (.cells #[(.int .i64 p1)] 3 (0, 0)), blk g408 (.cells #[(.slice A_p0 p0.length c_p0)] 22 (0, 0))] := hS1087.call hk_ [5, 1, 0, 3, 4] [2, 6, 7] (fun g hg => fpL_sel g hg) (by decide) (by decide)
  refine ⟨trivial, ?_⟩
  refine WL.done rfl ?_
  refine WX.next ?_
  refine WC.seq ?_
  refine WC.region ?_
  refine seg 2 [.v (.slice A1093 t1088.1.length c1094)] [4] [(4, (.slice A1093 t1088.1.length c1094))] [.cell ⟨g416, 0, none⟩ (.slice A1093 t1088.1.length c1094)] (fun fb => by kernel_rfl) rfl ⟨hS1092.cell 0 rfl 0 rfl, trivial⟩ ?_
  refine WL.done rfl ?_
  refine WX.next ?_
  refine WC.ret ?_
  injection hf with hf
  subst hf
  exact WX.ret_ [] (.slice A1093 t1088.1.length c1094) [] (fun fb => by kernel_rfl) trivial ⟨_, rfl, A1093, c1094, H1095, rfl, (hS1092.sub [1, 2] (by decide)).noR⟩
theorem fill_begin_calls (k : Nat) (p0 : List Tile) (p1 : Int) (p2 : Int) (p3 : Edges) (A_p0 : Option Addr) (c_p0 : Nat) (A_p3_North : Option Addr) (c_p3_North : Nat) (A_p3_East : Option Addr) (c_p3_East : Nat) (A_p3_South : Option Addr) (c_p3_South : Nat) (A_p3_West : Option Addr) (c_p3_West : Nat) (r : (Option Job) × Int) (w : World) (hR0 : RO NoS w (rowR enc_Tile A_p0 c_p0 p0)) (hR1 : RO NoS w (rowR encInt A_p3_North c_p3_North p3.North)) (hR2 : RO NoS w (rowR encInt A_p3_East c_p3_East p3.East)) (hR3 : RO NoS w (rowR encInt A_p3_South c_p3_South p3.South)) (hR4 : RO NoS w (rowR encInt A_p3_West c_p3_West p3.West)) (hf : fill_begin k p0 p1 p2 p3 = some r) :
    CallsR Try.prog 54 #[(.slice A_p0 p0.length c_p0), (.int .i64 p1), (.int .i64 p2), (.agg #[(.slice A_p3_North p3.North.length c_p3_North), (.slice A_p3_East p3.East.length c_p3_East), (.slice A_p3_South p3.South.length c_p3_South), (.slice A_p3_West p3.West.length c_p3_West)])] w (fun v w' => ∃ (g1_ : Nat), ∃ (A2_ : Option Addr), ∃ (c2_ : Nat), ∃ (h2_ : Nat → HF), v = (.tuple #[(optP r.1 g1_), (.int .i64 r.2)]) ∧ optS r.1 (Keeps NoS w w') (fun y_ => St NoS w w' [] [blk g1_ (.cells #[(.slice A2_ y_.rows.length c2_), (.int .i64 y_.width), (.int .i64 y_.height), (.slice A_p3_North p3.North.length c_p3_North), (.slice A_p3_East p3.East.length c_p3_East), (.slice A_p3_South p3.South.length c_p3_South), (.slice A_p3_West p3.West.length c_p3_West)] 84 (0, 0)), rowO 88 encN_Row A2_ c2_ (tag h2_ y_.rows), poolO [nestO subN_Row h2_ y_.rows]])) := by
  have hS : St NoS w w [rowR enc_Tile A_p0 c_p0 p0, rowR encInt A_p3_North c_p3_North p3.North, rowR encInt A_p3_East c_p3_East p3.East, rowR encInt A_p3_South c_p3_South p3.South, rowR encInt A_p3_West c_p3_West p3.West] [] := St.init (ro_cons hR0 (ro_cons hR1 (ro_cons hR2 (ro_cons hR3 (ro_cons hR4 (ro_nil _ _))))))
  refine enter 76 Try.func54 rfl Try.ntmps54 rfl ?_
  unfold fill_begin at hf
  refine WC.seq ?_
  refine WC.region ?_
  refine WL.new hS 7 [] (fun g => (.pointer (some ⟨g, 0, none⟩))) (.cells #[(.slice A_p3_North p3.North.length c_p3_North), (.slice A_p3_East p3.East.length c_p3_East), (.slice A_p3_South p3.South.length c_p3_South), (.slice A_p3_West p3.West.length c_p3_West)] 57 (0, 0)) [] (fun fb g => by kernel_rfl) trivial (fun g1124 w1125 hS1126 => ?_)
  refine ⟨trivial, ?_⟩
  refine seg 3 [] [0, 1, 2, 7] [(0, (.slice A_p0 p0.length c_p0)), (1, (.int .i64 p1)), (2, (.int .i64 p2)), (7, (.pointer (some ⟨g1124, 0, none⟩)))] [] (fun fb => by kernel_rfl) rfl trivial ?_
  refine WL.done rfl ?_
  refine WX.next ?_
  refine WC.seq ?_
  refine WC.seq ?_
  refine WC.region ?_
  refine seg 1 [] [0, 1, 2, 7, 12] [(0, (.slice A_p0 p0.length c_p0)), (1, (.int .i64 p1)), (2, (.int .i64 p2)), (7, (.pointer (some ⟨g1124, 0, none⟩))), (12, (.slice A_p0 p0.length c_p0))] [] (fun fb => by kernel_rfl) rfl trivial ?_
  obtain ⟨t1128, ht1129, hf⟩ := bind_some hf
  refine WL.call (some 13) 38 #[(.slice A_p0 p0.length c_p0)] (fun fb => by kernel_rfl) (tile_Valid_calls _ p0 A_p0 c_p0 t1128 _ (hS1126.rd 0) ht1129) (fun v w1130 hR1131 => ?_)
  obtain ⟨rfl, hk_⟩ := hR1131
  have hS1132 := hS1126.keepN hk_
  refine ⟨trivial, ?_⟩
  refine seg 3 [] [0, 1, 2, 7, 14] [(0, (.slice A_p0 p0.length c_p0)), (1, (.int .i64 p1)), (2, (.int .i64 p2)), (7, (.pointer (some ⟨g1124, 0, none⟩))), (14, (.bool (!t1128)))] [] (fun fb => by kernel_rfl) rfl trivial ?_
  refine WL.done rfl ?_
  refine WX.next ?_
  rcases br_some hf with ⟨h1133, hf⟩ | ⟨h1133, hf⟩
  · refine WC.condT2 (fun fb => by kernel_rfl) h1133 ?_
    refine WC.seq ?_
    refine WC.region ?_
    refine seg 2 [] [8, 9] [(8, (.pointer none)), (9, (.int .i64 1))] [] (fun fb => by kernel_rfl) rfl trivial ?_
    refine WL.done rfl ?_
    refine WX.next ?_
    refine WC.ret ?_
    injection hf with hf
    subst hf
    exact WX.thenR (WX.ret_ [] (.tuple #[(.pointer none), (.int .i64 1)]) [] (fun fb => by kernel_rfl) trivial ⟨_, rfl, 0, none, 0, h0, rfl, hS1132.keep⟩)
  refine WC.condF2 (fun fb => by kernel_rfl) h1133 ?_
  refine WC.skip ?_
  refine WX.next ?_
  refine WC.seq ?_
  refine WC.seq ?_
  refine WC.region ?_
  refine seg 3 [] [0, 1, 2, 7, 17] [(0, (.slice A_p0 p0.length c_p0)), (1, (.int .i64 p1)), (2, (.int .i64 p2)), (7, (.pointer (some ⟨g1124, 0, none⟩))), (17, (.bool (decide (p1 < 1))))] [] (fun fb => by kernel_rfl) rfl trivial ?_
  refine WL.cutV (T := Bool) 6 (fun t => [(20, (.bool t)), (0, (.slice A_p0 p0.length c_p0)), (1, (.int .i64 p1)), (2, (.int .i64 p2)), (7, (.pointer (some ⟨g1124, 0, none⟩)))]) (fun t => ((decide (p1 < 1)) || (decide (p1 > 8))) = t) (fun K => ?_) ?_
  ·
    rcases Bool.eq_false_or_eq_true (decide (p1 < 1)) with h1134 | h1134
    ·
      refine WL.setB 17 h1134 rfl ?_
      refine seg 6 [] [0, 1, 2, 7, 20] [(0, (.slice A_p0 p0.length c_p0)), (1, (.int .i64 p1)), (2, (.int .i64 p2)), (7, (.pointer (some ⟨g1124, 0, none⟩))), (20, (.bool true))] [] (fun fb => by kernel_rfl) rfl trivial ?_
      exact WL.toV K true [20, 0, 1, 2, 7] rfl (by first | (rw [h1134]; done) | (rw [h1134]; rfl))
    refine WL.setB 17 h1134 rfl ?_
    refine seg 6 [] [0, 1, 2, 7, 20] [(0, (.slice A_p0 p0.length c_p0)), (1, (.int .i64 p1)), (2, (.int .i64 p2)), (7, (.pointer (some ⟨g1124, 0, none⟩))), (20, (.bool (decide (p1 > 8))))] [] (fun fb => by kernel_rfl) rfl trivial ?_
    exact WL.toV K (decide (p1 > 8)) [20, 0, 1, 2, 7] rfl (by first | (rw [h1134]; done) | (rw [h1134]; rfl))
  rintro b1135 rfl
  refine seg 7 [] [0, 1, 2, 7, 21] [(0, (.slice A_p0 p0.length c_p0)), (1, (.int .i64 p1)), (2, (.int .i64 p2)), (7, (.pointer (some ⟨g1124, 0, none⟩))), (21, (.bool ((decide (p1 < 1)) || (decide (p1 > 8)))))] [] (fun fb => by kernel_rfl) rfl trivial ?_
  refine WL.cutV (T := Bool) 10 (fun t => [(24, (.bool t)), (0, (.slice A_p0 p0.length c_p0)), (1, (.int .i64 p1)), (2, (.int .i64 p2)), (7, (.pointer (some ⟨g1124, 0, none⟩)))]) (fun t => (((decide (p1 < 1)) || (decide (p1 > 8))) || (decide (p2 < 1))) = t) (fun K => ?_) ?_
  ·
    rcases Bool.eq_false_or_eq_true ((decide (p1 < 1)) || (decide (p1 > 8))) with h1136 | h1136
    ·
      refine WL.setB 21 h1136 rfl ?_
      refine seg 10 [] [0, 1, 2, 7, 24] [(0, (.slice A_p0 p0.length c_p0)), (1, (.int .i64 p1)), (2, (.int .i64 p2)), (7, (.pointer (some ⟨g1124, 0, none⟩))), (24, (.bool true))] [] (fun fb => by kernel_rfl) rfl trivial ?_
      exact WL.toV K true [24, 0, 1, 2, 7] rfl (by first | (rw [h1136]; done) | (rw [h1136]; rfl))
    refine WL.setB 21 h1136 rfl ?_
    refine seg 10 [] [0, 1, 2, 7, 24] [(0, (.slice A_p0 p0.length c_p0)), (1, (.int .i64 p1)), (2, (.int .i64 p2)), (7, (.pointer (some ⟨g1124, 0, none⟩))), (24, (.bool (decide (p2 < 1))))] [] (fun fb => by kernel_rfl) rfl trivial ?_
    exact WL.toV K (decide (p2 < 1)) [24, 0, 1, 2, 7] rfl (by first | (rw [h1136]; done) | (rw [h1136]; rfl))
  rintro b1137 rfl
  refine seg 11 [] [0, 1, 2, 7, 25] [(0, (.slice A_p0 p0.length c_p0)), (1, (.int .i64 p1)), (2, (.int .i64 p2)), (7, (.pointer (some ⟨g1124, 0, none⟩))), (25, (.bool (((decide (p1 < 1)) || (decide (p1 > 8))) || (decide (p2 < 1)))))] [] (fun fb => by kernel_rfl) rfl trivial ?_
  refine WL.cutV (T := Bool) 14 (fun t => [(28, (.bool t)), (0, (.slice A_p0 p0.length c_p0)), (1, (.int .i64 p1)), (2, (.int .i64 p2)), (7, (.pointer (some ⟨g1124, 0, none⟩)))]) (fun t => ((((decide (p1 < 1)) || (decide (p1 > 8))) || (decide (p2 < 1))) || (decide (p2 > 60))) = t) (fun K => ?_) ?_
  ·
    rcases Bool.eq_false_or_eq_true (((decide (p1 < 1)) || (decide (p1 > 8))) || (decide (p2 < 1))) with h1138 | h1138
    ·
      refine WL.setB 25 h1138 rfl ?_
      refine seg 14 [] [0, 1, 2, 7, 28] [(0, (.slice A_p0 p0.length c_p0)), (1, (.int .i64 p1)), (2, (.int .i64 p2)), (7, (.pointer (some ⟨g1124, 0, none⟩))), (28, (.bool true))] [] (fun fb => by kernel_rfl) rfl trivial ?_
      exact WL.toV K true [28, 0, 1, 2, 7] rfl (by first | (rw [h1138]; done) | (rw [h1138]; rfl))
    refine WL.setB 25 h1138 rfl ?_
    refine seg 14 [] [0, 1, 2, 7, 28] [(0, (.slice A_p0 p0.length c_p0)), (1, (.int .i64 p1)), (2, (.int .i64 p2)), (7, (.pointer (some ⟨g1124, 0, none⟩))), (28, (.bool (decide (p2 > 60))))] [] (fun fb => by kernel_rfl) rfl trivial ?_
    exact WL.toV K (decide (p2 > 60)) [28, 0, 1, 2, 7] rfl (by first | (rw [h1138]; done) | (rw [h1138]; rfl))
  rintro b1139 rfl
  refine WL.done rfl ?_
  refine WX.next ?_
  rcases br_some hf with ⟨h1140, hf⟩ | ⟨h1140, hf⟩
  · refine WC.condT2 (fun fb => by kernel_rfl) h1140 ?_
    refine WC.seq ?_
    refine WC.region ?_
    refine seg 2 [] [8, 9] [(8, (.pointer none)), (9, (.int .i64 2))] [] (fun fb => by kernel_rfl) rfl trivial ?_
    refine WL.done rfl ?_
    refine WX.next ?_
    refine WC.ret ?_
    injection hf with hf
    subst hf
    exact WX.thenR (WX.ret_ [] (.tuple #[(.pointer none), (.int .i64 2)]) [] (fun fb => by kernel_rfl) trivial ⟨_, rfl, 0, none, 0, h0, rfl, hS1132.keep⟩)
  refine WC.condF2 (fun fb => by kernel_rfl) h1140 ?_
  refine WC.skip ?_
  refine WX.next ?_
  refine WC.seq ?_
  refine WC.seq ?_
  refine WC.region ?_
  refine seg 16 [.v (.slice A_p3_North p3.North.length c_p3_North), .v (.slice A_p3_South p3.South.length c_p3_South), .v (.slice A_p3_East p3.East.length c_p3_East), .v (.slice A_p3_West p3.West.length c_p3_West)] [0, 1, 2, 7, 32, 36, 40, 44] [(0, (.slice A_p0 p0.length c_p0)), (1, (.int .i64 p1)), (2, (.int .i64 p2)), (7, (.pointer (some ⟨g1124, 0, none⟩))), (32, (.agg #[(.slice A_p3_North p3.North.length c_p3_North), (.int .i64 p1)])), (36, (.agg #[(.slice A_p3_South p3.South.length c_p3_South), (.int .i64 p1)])), (40, (.agg #[(.slice A_p3_East p3.East.length c_p3_East), (.int .i64 p2)])), (44, (.agg #[(.slice A_p3_West p3.West.length c_p3_West), (.int .i64 p2)]))] [.cell ⟨g1124, 0, none⟩ (.slice A_p3_North p3.North.length c_p3_North), .cell ⟨g1124, 2, none⟩ (.slice A_p3_South p3.South.length c_p3_South), .cell ⟨g1124, 1, none⟩ (.slice A_p3_East p3.East.length c_p3_East), .cell ⟨g1124, 3, none⟩ (.slice A_p3_West p3.West.length c_p3_West)] (fun fb => by kernel_rfl) rfl ⟨hS1132.cell 0 rfl 0 rfl, hS1132.cell 0 rfl 2 rfl, hS1132.cell 0 rfl 1 rfl, hS1132.cell 0 rfl 3 rfl, trivial⟩ ?_
  refine WL.new hS1132 45 [] (fun g => (.slice (some ⟨g, 0, none⟩) 4 4)) (.cells #[(.slice A_p3_North p3.North.length c_p3_North), (.int .i64 p1), (.slice A_p3_South p3.South.length c_p3_South), (.int .i64 p1), (.slice A_p3_East p3.East.length c_p3_East), (.int .i64 p2), (.slice A_p3_West p3.West.length c_p3_West), (.int .i64 p2)] 108 (0, 0)) [] (fun fb g => by kernel_rfl) trivial (fun g1141 w1142 hS1143 => ?_)
  refine ⟨trivial, ?_⟩
  have hS1146 : St NoS w w1142 [nestO subN_S108 (hlN [(hd1 A_p3_North c_p3_North), (hd1 A_p3_South c_p3_South), (hd1 A_p3_East c_p3_East), (hd1 A_p3_West c_p3_West)]) [(S108.mk p3.North p1), (S108.mk p3.South p1), (S108.mk p3.East p2), (S108.mk p3.West p2)], rowR enc_Tile A_p0 c_p0 p0, rowR encInt A_p3_North c_p3_North p3.North, rowR encInt A_p3_East c_p3_East p3.East, rowR encInt A_p3_South c_p3_South p3.South, rowR encInt A_p3_West c_p3_West p3.West] [blk g1141 (.cells #[(.slice A_p3_North p3.North.length c_p3_North), (.int .i64 p1), (.slice A_p3_South p3.South.length c_p3_South), (.int .i64 p1), (.slice A_p3_East p3.East.length c_p3_East), (.int .i64 p2), (.slice A_p3_West p3.West.length c_p3_West), (.int .i64 p2)] 108 (0, 0)), blk g1124 (.cells #[(.slice A_p3_North p3.North.length c_p3_North), (.slice A_p3_East p3.East.length c_p3_East), (.slice A_p3_South p3.South.length c_p3_South), (.slice A_p3_West p3.West.length c_p3_West)] 57 (0, 0))] := hS1143.addR _ (nestO_cons (hS1143.rdL 1) (nestO_cons (hS1143.rdL 3) (nestO_cons (hS1143.rdL 2) (nestO_cons (hS1143.rdL 4) (nestO_nil _ _ _ _)))))
  have hS1145 : St NoS w w1142 [nestO subN_S108 (hlN [(hd1 A_p3_North c_p3_North), (hd1 A_p3_South c_p3_South), (hd1 A_p3_East c_p3_East), (hd1 A_p3_West c_p3_West)]) [(S108.mk p3.North p1), (S108.mk p3.South p1), (S108.mk p3.East p2), (S108.mk p3.West p2)], rowR enc_Tile A_p0 c_p0 p0, rowR encInt A_p3_North c_p3_North p3.North, rowR encInt A_p3_East c_p3_East p3.East, rowR encInt A_p3_South c_p3_South p3.South, rowR encInt A_p3_West c_p3_West p3.West] [rowO 108 encN_S108 (some ⟨g1141, 0, none⟩) 4 (tag (hlN [(hd1 A_p3_North c_p3_North), (hd1 A_p3_South c_p3_South), (hd1 A_p3_East c_p3_East), (hd1 A_p3_West c_p3_West)]) [(S108.mk p3.North p1), (S108.mk p3.South p1), (S108.mk p3.East p2), (S108.mk p3.West p2)]), blk g1124 (.cells #[(.slice A_p3_North p3.North.length c_p3_North), (.slice A_p3_East p3.East.length c_p3_East), (.slice A_p3_South p3.South.length c_p3_South), (.slice A_p3_West p3.West.length c_p3_West)] 57 (0, 0))] := hS1146.map1 0 _ (fun h => rowO.ofBlk h rfl (Nat.le_of_ble_eq_true (by kernel_rfl))) (fun _ h => by obtain ⟨_, h1, h2⟩ := h; injection h1 with h1; subst h1; exact h2) [1] (by decide) (by decide)
  refine seg 19 [] [0, 1, 2, 7, 45, 46, 47] [(0, (.slice A_p0 p0.length c_p0)), (1, (.int .i64 p1)), (2, (.int .i64 p2)), (7, (.pointer (some ⟨g1124, 0, none⟩))), (45, (.slice (some ⟨g1141, 0, none⟩) [(S108.mk p3.North p1), (S108.mk p3.South p1), (S108.mk p3.East p2), (S108.mk p3.West p2)].length 4)), (46, (.int .i64 ([(S108.mk p3.North p1), (S108.mk p3.South p1), (S108.mk p3.East p2), (S108.mk p3.West p2)].length : Int))), (47, (.int .i64 0))] [] (fun fb => by kernel_rfl) rfl trivial ?_
  refine WL.done rfl ?_
  refine WX.next ?_
  obtain ⟨x1171, hx1172, hf⟩ := bind_some hf
  refine WC.cutN (T := Unit) (fun t => [(0, (.slice A_p0 p0.length c_p0)), (1, (.int .i64 p1)), (2, (.int .i64 p2)), (7, (.pointer (some ⟨g1124, 0, none⟩)))]) (fun t w1 => St NoS w w1 [nestO subN_S108 (hlN [(hd1 A_p3_North c_p3_North), (hd1 A_p3_South c_p3_South), (hd1 A_p3_East c_p3_East), (hd1 A_p3_West c_p3_West)]) [(S108.mk p3.North p1), (S108.mk p3.South p1), (S108.mk p3.East p2), (S108.mk p3.West p2)], rowR enc_Tile A_p0 c_p0 p0, rowR encInt A_p3_North c_p3_North p3.North, rowR encInt A_p3_East c_p3_East p3.East, rowR encInt A_p3_South c_p3_South p3.South, rowR encInt A_p3_West c_p3_West p3.West] [blk g1124 (.cells #[(.slice A_p3_North p3.North.length c_p3_North), (.slice A_p3_East p3.East.length c_p3_East), (.slice A_p3_South p3.South.length c_p3_South), (.slice A_p3_West p3.West.length c_p3_West)] 57 (0, 0))] ∧ x1171 = .inr t) (fun Kx1171 => ?_) ?_
  ·
    refine WC.block ?_
    refine WC.loop (T := Int) (fun t => [(0, (.slice A_p0 p0.length c_p0)), (1, (.int .i64 p1)), (2, (.int .i64 p2)), (7, (.pointer (some ⟨g1124, 0, none⟩))), (45, (.slice (some ⟨g1141, 0, none⟩) [(S108.mk p3.North p1), (S108.mk p3.South p1), (S108.mk p3.East p2), (S108.mk p3.West p2)].length 4)), (46, (.int .i64 ([(S108.mk p3.North p1), (S108.mk p3.South p1), (S108.mk p3.East p2), (S108.mk p3.West p2)].length : Int))), (47, (.int .i64 t))]) (fun n t w1 => St NoS w w1 [nestO subN_S108 (hlN [(hd1 A_p3_North c_p3_North), (hd1 A_p3_South c_p3_South), (hd1 A_p3_East c_p3_East), (hd1 A_p3_West c_p3_West)]) [(S108.mk p3.North p1), (S108.mk p3.South p1), (S108.mk p3.East p2), (S108.mk p3.West p2)], rowR enc_Tile A_p0 c_p0 p0, rowR encInt A_p3_North c_p3_North p3.North, rowR encInt A_p3_East c_p3_East p3.East, rowR encInt A_p3_South c_p3_South p3.South, rowR encInt A_p3_West c_p3_West p3.West] [blk g1124 (.cells #[(.slice A_p3_North p3.North.length c_p3_North), (.slice A_p3_East p3.East.length c_p3_East), (.slice A_p3_South p3.South.length c_p3_South), (.slice A_p3_West p3.West.length c_p3_West)] 57 (0, 0)), rowO 108 encN_S108 (some ⟨g1141, 0, none⟩) 4 (tag (hlN [(hd1 A_p3_North c_p3_North), (hd1 A_p3_South c_p3_South), (hd1 A_p3_East c_p3_East), (hd1 A_p3_West c_p3_West)]) [(S108.mk p3.North p1), (S108.mk p3.South p1), (S108.mk p3.East p2), (S108.mk p3.West p2)])] ∧ fill_begin.l0 n t p1 p2 p3 = some x1171) k 0 [0, 1, 2, 7, 45, 46, 47] rfl ⟨(hS1145.subR [0, 1, 2, 3, 4, 5]).sub [1, 0] (by decide), hx1172⟩ ?_
    rintro k1173 x1170 w1174 ⟨hS1175, hl1176⟩
    cases k1173 with
    | zero => rw [fill_begin.l0] at hl1176; cases hl1176
    | succ k1173 =>
      rw [fill_begin.l0] at hl1176
      refine WC.seq ?_
      refine WC.region ?_
      refine seg 1 [] [0, 1, 2, 7, 45, 46, 47, 48] [(0, (.slice A_p0 p0.length c_p0)), (1, (.int .i64 p1)), (2, (.int .i64 p2)), (7, (.pointer (some ⟨g1124, 0, none⟩))), (45, (.slice (some ⟨g1141, 0, none⟩) [(S108.mk p3.North p1), (S108.mk p3.South p1), (S108.mk p3.East p2), (S108.mk p3.West p2)].length 4)), (46, (.int .i64 ([(S108.mk p3.North p1), (S108.mk p3.South p1), (S108.mk p3.East p2), (S108.mk p3.West p2)].length : Int))), (47, (.int .i64 x1170)), (48, (.bool (decide (x1170 < ([(S108.mk p3.North p1), (S108.mk p3.South p1), (S108.mk p3.East p2), (S108.mk p3.West p2)].length : Int)))))] [] (fun fb => by kernel_rfl) rfl trivial ?_
      refine WL.done rfl ?_
      refine WX.next ?_
      refine WC.seq ?_
      rcases br_some hl1176 with ⟨h1177, hl1176⟩ | ⟨h1177, hl1176⟩
      · refine WC.condT2 (fun fb => by kernel_rfl) h1177 ?_
        refine WC.skip ?_
        refine WX.next ?_
        refine WC.seq ?_
        refine WC.block ?_
        refine WC.seq ?_
        refine WC.region ?_
        obtain ⟨h1178, hl1176⟩ := as_some hl1176
        refine seg 2 [.v (.slice (((hlN [(hd1 A_p3_North c_p3_North), (hd1 A_p3_South c_p3_South), (hd1 A_p3_East c_p3_East), (hd1 A_p3_West c_p3_West)]) x1170.toNat 0).1) ((rdD [(S108.mk p3.North p1), (S108.mk p3.South p1), (S108.mk p3.East p2), (S108.mk p3.West p2)] x1170 z_S108).side).length (((hlN [(hd1 A_p3_North c_p3_North), (hd1 A_p3_South c_p3_South), (hd1 A_p3_East c_p3_East), (hd1 A_p3_West c_p3_West)]) x1170.toNat 0).2)), .v (.int .i64 ((rdD [(S108.mk p3.North p1), (S108.mk p3.South p1), (S108.mk p3.East p2), (S108.mk p3.West p2)] x1170 z_S108).n))] [0, 1, 2, 7, 45, 46, 47, 50] [(0, (.slice A_p0 p0.length c_p0)), (1, (.int .i64 p1)), (2, (.int .i64 p2)), (7, (.pointer (some ⟨g1124, 0, none⟩))), (45, (.slice (some ⟨g1141, 0, none⟩) [(S108.mk p3.North p1), (S108.mk p3.South p1), (S108.mk p3.East p2), (S108.mk p3.West p2)].length 4)), (46, (.int .i64 ([(S108.mk p3.North p1), (S108.mk p3.South p1), (S108.mk p3.East p2), (S108.mk p3.West p2)].length : Int))), (47, (.int .i64 x1170)), (50, (.agg #[(.slice (((hlN [(hd1 A_p3_North c_p3_North), (hd1 A_p3_South c_p3_South), (hd1 A_p3_East c_p3_East), (hd1 A_p3_West c_p3_West)]) x1170.toNat 0).1) ((rdD [(S108.mk p3.North p1), (S108.mk p3.South p1), (S108.mk p3.East p2), (S108.mk p3.West p2)] x1170 z_S108).side).length (((hlN [(hd1 A_p3_North c_p3_North), (hd1 A_p3_South c_p3_South), (hd1 A_p3_East c_p3_East), (hd1 A_p3_West c_p3_West)]) x1170.toNat 0).2)), (.int .i64 ((rdD [(S108.mk p3.North p1), (S108.mk p3.South p1), (S108.mk p3.East p2), (S108.mk p3.West p2)] x1170 z_S108).n))]))] [.idx (some ⟨g1141, 0, none⟩) x1170 [(S108.mk p3.North p1), (S108.mk p3.South p1), (S108.mk p3.East p2), (S108.mk p3.West p2)].length, .cell ((adr (some ⟨g1141, 0, none⟩)).add ((x1170).toNat * 2)) (.slice (((hlN [(hd1 A_p3_North c_p3_North), (hd1 A_p3_South c_p3_South), (hd1 A_p3_East c_p3_East), (hd1 A_p3_West c_p3_West)]) x1170.toNat 0).1) ((rdD [(S108.mk p3.North p1), (S108.mk p3.South p1), (S108.mk p3.East p2), (S108.mk p3.West p2)] x1170 z_S108).side).length (((hlN [(hd1 A_p3_North c_p3_North), (hd1 A_p3_South c_p3_South), (hd1 A_p3_East c_p3_East), (hd1 A_p3_West c_p3_West)]) x1170.toNat 0).2)), .cell (((adr (some ⟨g1141, 0, none⟩)).add ((x1170).toNat * 2)).add 1) (.int .i64 ((rdD [(S108.mk p3.North p1), (S108.mk p3.South p1), (S108.mk p3.East p2), (S108.mk p3.West p2)] x1170 z_S108).n))] (fun fb => by kernel_rfl) rfl ⟨nrow_adr (rowO.rd (hS1175.own 1).1) h1178.1 h1178.2, nrow_cell (rowO.rd (hS1175.own 1).1) z_S108 h1178.1 h1178.2 0 rfl, nrow_cell (rowO.rd (hS1175.own 1).1) z_S108 h1178.1 h1178.2 1 rfl, trivial⟩ ?_
        refine WL.new hS1175 11 [] (fun g => (.pointer (some ⟨g, 0, none⟩))) (.cells #[(.slice none 0 0), (.int .i64 0)] 108 (0, 0)) [] (fun fb g => by kernel_rfl) trivial (fun g1179 w1180 hS1181 => ?_)
        refine ⟨trivial, ?_⟩
        refine WL.store hS1181 0 rfl [(0, (.slice (((hlN [(hd1 A_p3_North c_p3_North), (hd1 A_p3_South c_p3_South), (hd1 A_p3_East c_p3_East), (hd1 A_p3_West c_p3_West)]) x1170.toNat 0).1) ((rdD [(S108.mk p3.North p1), (S108.mk p3.South p1), (S108.mk p3.East p2), (S108.mk p3.West p2)] x1170 z_S108).side).length (((hlN [(hd1 A_p3_North c_p3_North), (hd1 A_p3_South c_p3_South), (hd1 A_p3_East c_p3_East), (hd1 A_p3_West c_p3_West)]) x1170.toNat 0).2))), (1, (.int .i64 ((rdD [(S108.mk p3.North p1), (S108.mk p3.South p1), (S108.mk p3.East p2), (S108.mk p3.West p2)] x1170 z_S108).n)))] #[(.slice (((hlN [(hd1 A_p3_North c_p3_North), (hd1 A_p3_South c_p3_South), (hd1 A_p3_East c_p3_East), (hd1 A_p3_West c_p3_West)]) x1170.toNat 0).1) ((rdD [(S108.mk p3.North p1), (S108.mk p3.South p1), (S108.mk p3.East p2), (S108.mk p3.West p2)] x1170 z_S108).side).length (((hlN [(hd1 A_p3_North c_p3_North), (hd1 A_p3_South c_p3_South), (hd1 A_p3_East c_p3_East), (hd1 A_p3_West c_p3_West)]) x1170.toNat 0).2)), (.int .i64 ((rdD [(S108.mk p3.North p1), (S108.mk p3.South p1), (S108.mk p3.East p2), (S108.mk p3.West p2)] x1170 z_S108).n))] (fun fb => by kernel_rfl) (by kernel_rfl) rfl [1, 2] (by decide) (by decide) (fun w1183 hS1184 => ?_)
        refine ⟨trivial, ?_⟩
        refine WL.done rfl ?_
        refine WX.next ?_
        refine WC.seq ?_
        refine WC.region ?_
        refine seg 5 [.v (.slice (((hlN [(hd1 A_p3_North c_p3_North), (hd1 A_p3_South c_p3_South), (hd1 A_p3_East c_p3_East), (hd1 A_p3_West c_p3_West)]) x1170.toNat 0).1) ((rdD [(S108.mk p3.North p1), (S108.mk p3.South p1), (S108.mk p3.East p2), (S108.mk p3.West p2)] x1170 z_S108).side).length (((hlN [(hd1 A_p3_North c_p3_North), (hd1 A_p3_South c_p3_South), (hd1 A_p3_East c_p3_East), (hd1 A_p3_West c_p3_West)]) x1170.toNat 0).2))] [0, 1, 2, 7, 11, 45, 46, 47, 55] [(0, (.slice A_p0 p0.length c_p0)), (1, (.int .i64 p1)), (2, (.int .i64 p2)), (7, (.pointer (some ⟨g1124, 0, none⟩))), (11, (.pointer (some ⟨g1179, 0, none⟩))), (45, (.slice (some ⟨g1141, 0, none⟩) [(S108.mk p3.North p1), (S108.mk p3.South p1), (S108.mk p3.East p2), (S108.mk p3.West p2)].length 4)), (46, (.int .i64 ([(S108.mk p3.North p1), (S108.mk p3.South p1), (S108.mk p3.East p2), (S108.mk p3.West p2)].length : Int))), (47, (.int .i64 x1170)), (55, (.bool ((((rdD [(S108.mk p3.North p1), (S108.mk p3.South p1), (S108.mk p3.East p2), (S108.mk p3.West p2)] x1170 z_S108).side).length : Int) != 0)))] [.cell ⟨g1179, 0, none⟩ (.slice (((hlN [(hd1 A_p3_North c_p3_North), (hd1 A_p3_South c_p3_South), (hd1 A_p3_East c_p3_East), (hd1 A_p3_West c_p3_West)]) x1170.toNat 0).1) ((rdD [(S108.mk p3.North p1), (S108.mk p3.South p1), (S108.mk p3.East p2), (S108.mk p3.West p2)] x1170 z_S108).side).length (((hlN [(hd1 A_p3_North c_p3_North), (hd1 A_p3_South c_p3_South), (hd1 A_p3_East c_p3_East), (hd1 A_p3_West c_p3_West)]) x1170.toNat 0).2))] (fun fb => by kernel_rfl) rfl ⟨hS1184.cell 0 rfl 0 rfl, trivial⟩ ?_
        refine WL.cutV (T := Bool) 12 (fun t => [(62, (.bool t)), (0, (.slice A_p0 p0.length c_p0)), (1, (.int .i64 p1)), (2, (.int .i64 p2)), (7, (.pointer (some ⟨g1124, 0, none⟩))), (45, (.slice (some ⟨g1141, 0, none⟩) [(S108.mk p3.North p1), (S108.mk p3.South p1), (S108.mk p3.East p2), (S108.mk p3.West p2)].length 4)), (46, (.int .i64 ([(S108.mk p3.North p1), (S108.mk p3.South p1), (S108.mk p3.East p2), (S108.mk p3.West p2)].length : Int))), (47, (.int .i64 x1170))]) (fun t => (((((rdD [(S108.mk p3.North p1), (S108.mk p3.South p1), (S108.mk p3.East p2), (S108.mk p3.West p2)] x1170 z_S108).side).length : Int) != 0) && ((((rdD [(S108.mk p3.North p1), (S108.mk p3.South p1), (S108.mk p3.East p2), (S108.mk p3.West p2)] x1170 z_S108).side).length : Int) != ((rdD [(S108.mk p3.North p1), (S108.mk p3.South p1), (S108.mk p3.East p2), (S108.mk p3.West p2)] x1170 z_S108).n))) = t) (fun K => ?_) ?_
        ·
          rcases Bool.eq_false_or_eq_true ((((rdD [(S108.mk p3.North p1), (S108.mk p3.South p1), (S108.mk p3.East p2), (S108.mk p3.West p2)] x1170 z_S108).side).length : Int) != 0) with h1185 | h1185
          ·
            refine WL.setB 55 h1185 rfl ?_
            refine seg 12 [.v (.slice (((hlN [(hd1 A_p3_North c_p3_North), (hd1 A_p3_South c_p3_South), (hd1 A_p3_East c_p3_East), (hd1 A_p3_West c_p3_West)]) x1170.toNat 0).1) ((rdD [(S108.mk p3.North p1), (S108.mk p3.South p1), (S108.mk p3.East p2), (S108.mk p3.West p2)] x1170 z_S108).side).length (((hlN [(hd1 A_p3_North c_p3_North), (hd1 A_p3_South c_p3_South), (hd1 A_p3_East c_p3_East), (hd1 A_p3_West c_p3_West)]) x1170.toNat 0).2)), .v (.int .i64 ((rdD [(S108.mk p3.North p1), (S108.mk p3.South p1), (S108.mk p3.East p2), (S108.mk p3.West p2)] x1170 z_S108).n))] [0, 1, 2, 7, 45, 46, 47, 62] [(0, (.slice A_p0 p0.length c_p0)), (1, (.int .i64 p1)), (2, (.int .i64 p2)), (7, (.pointer (some ⟨g1124, 0, none⟩))), (45, (.slice (some ⟨g1141, 0, none⟩) [(S108.mk p3.North p1), (S108.mk p3.South p1), (S108.mk p3.East p2), (S108.mk p3.West p2)].length 4)), (46, (.int .i64 ([(S108.mk p3.North p1), (S108.mk p3.South p1), (S108.mk p3.East p2), (S108.mk p3.West p2)].length : Int))), (47, (.int .i64 x1170)), (62, (.bool ((((rdD [(S108.mk p3.North p1), (S108.mk p3.South p1), (S108.mk p3.East p2), (S108.mk p3.West p2)] x1170 z_S108).side).length : Int) != ((rdD [(S108.mk p3.North p1), (S108.mk p3.South p1), (S108.mk p3.East p2), (S108.mk p3.West p2)] x1170 z_S108).n))))] [.cell ⟨g1179, 0, none⟩ (.slice (((hlN [(hd1 A_p3_North c_p3_North), (hd1 A_p3_South c_p3_South), (hd1 A_p3_East c_p3_East), (hd1 A_p3_West c_p3_West)]) x1170.toNat 0).1) ((rdD [(S108.mk p3.North p1), (S108.mk p3.South p1), (S108.mk p3.East p2), (S108.mk p3.West p2)] x1170 z_S108).side).length (((hlN [(hd1 A_p3_North c_p3_North), (hd1 A_p3_South c_p3_South), (hd1 A_p3_East c_p3_East), (hd1 A_p3_West c_p3_West)]) x1170.toNat 0).2)), .cell ⟨g1179, 1, none⟩ (.int .i64 ((rdD [(S108.mk p3.North p1), (S108.mk p3.South p1), (S108.mk p3.East p2), (S108.mk p3.West p2)] x1170 z_S108).n))] (fun fb => by kernel_rfl) rfl ⟨hS1184.cell 0 rfl 0 rfl, hS1184.cell 0 rfl 1 rfl, trivial⟩ ?_
            exact WL.toV K ((((rdD [(S108.mk p3.North p1), (S108.mk p3.South p1), (S108.mk p3.East p2), (S108.mk p3.West p2)] x1170 z_S108).side).length : Int) != ((rdD [(S108.mk p3.North p1), (S108.mk p3.South p1), (S108.mk p3.East p2), (S108.mk p3.West p2)] x1170 z_S108).n)) [62, 0, 1, 2, 7, 45, 46, 47] rfl (by first | (rw [h1185]; done) | (rw [h1185]; rfl))
          refine WL.setB 55 h1185 rfl ?_
          refine seg 12 [] [0, 1, 2, 7, 45, 46, 47, 62] [(0, (.slice A_p0 p0.length c_p0)), (1, (.int .i64 p1)), (2, (.int .i64 p2)), (7, (.pointer (some ⟨g1124, 0, none⟩))), (45, (.slice (some ⟨g1141, 0, none⟩) [(S108.mk p3.North p1), (S108.mk p3.South p1), (S108.mk p3.East p2), (S108.mk p3.West p2)].length 4)), (46, (.int .i64 ([(S108.mk p3.North p1), (S108.mk p3.South p1), (S108.mk p3.East p2), (S108.mk p3.West p2)].length : Int))), (47, (.int .i64 x1170)), (62, (.bool false))] [] (fun fb => by kernel_rfl) rfl trivial ?_
          exact WL.toV K false [62, 0, 1, 2, 7, 45, 46, 47] rfl (by first | (rw [h1185]; done) | (rw [h1185]; rfl))
        rintro b1186 rfl
        refine WL.done rfl ?_
        refine WX.next ?_
        rcases br_some hl1176 with ⟨h1187, hl1176⟩ | ⟨h1187, hl1176⟩
        · refine WC.condT2 (fun fb => by kernel_rfl) h1187 ?_
          refine WC.seq ?_
          refine WC.region ?_
          refine seg 2 [] [8, 9] [(8, (.pointer none)), (9, (.int .i64 2))] [] (fun fb => by kernel_rfl) rfl trivial ?_
          refine WL.done rfl ?_
          refine WX.next ?_
          refine WC.ret ?_
          injection hl1176 with hl1176
          subst hl1176
          injection hf with hf
          subst hf
          exact WX.blockR (WX.thenR (WX.thenR (WX.blockR (WX.thenR (WX.ret_ [] (.tuple #[(.pointer none), (.int .i64 2)]) [] (fun fb => by kernel_rfl) trivial ⟨_, rfl, 0, none, 0, h0, rfl, hS1184.keep⟩)))))
        refine WC.condF2 (fun fb => by kernel_rfl) h1187 ?_
        refine WC.skip ?_
        refine WX.blockN (WX.next ?_)
        refine WC.region ?_
        refine seg 2 [] [0, 1, 2, 7, 45, 46, 47] [(0, (.slice A_p0 p0.length c_p0)), (1, (.int .i64 p1)), (2, (.int .i64 p2)), (7, (.pointer (some ⟨g1124, 0, none⟩))), (45, (.slice (some ⟨g1141, 0, none⟩) [(S108.mk p3.North p1), (S108.mk p3.South p1), (S108.mk p3.East p2), (S108.mk p3.West p2)].length 4)), (46, (.int .i64 ([(S108.mk p3.North p1), (S108.mk p3.South p1), (S108.mk p3.East p2), (S108.mk p3.West p2)].length : Int))), (47, (.int .i64 (w64 (x1170 + 1))))] [] (fun fb => by kernel_rfl) rfl trivial ?_
        refine WL.done rfl ?_
        exact WX.again k1173 (Nat.lt_succ_self _) (w64 (x1170 + 1)) [0, 1, 2, 7, 45, 46, 47] rfl ⟨(hS1184.subR [0, 1, 2, 3, 4, 5]).sub [1, 2] (by decide), hl1176⟩
      refine WC.condF2 (fun fb => by kernel_rfl) h1177 ?_
      refine WC.exit ?_
      injection hl1176 with hl1176
      exact WX.thenX (WX.thenX (WX.blockHere (WX.to Kx1171 () [0, 1, 2, 7] rfl ⟨(hS1175.subR [0, 1, 2, 3, 4, 5]).sub [0] (by decide), hl1176.symm⟩)))
  rintro y1191 w1188 ⟨hS1189, hq1190⟩
  subst hq1190
  have hf := sum_inr hf
  refine WX.next ?_
  refine WC.seq ?_
  refine WC.seq ?_
  refine WC.region ?_
  refine seg 2 [] [0, 1, 2, 7, 64, 65] [(0, (.slice A_p0 p0.length c_p0)), (1, (.int .i64 p1)), (2, (.int .i64 p2)), (7, (.pointer (some ⟨g1124, 0, none⟩))), (64, (.slice A_p0 p0.length c_p0)), (65, (.int .i64 p1))] [] (fun fb => by kernel_rfl) rfl trivial ?_
  obtain ⟨t1193, ht1194, hf⟩ := bind_some hf
  refine WL.call (some 66) 45 #[(.slice A_p0 p0.length c_p0), (.int .i64 p1)] (fun fb => by kernel_rfl) (rows_Few_calls _ p0 p1 A_p0 c_p0 t1193 _ (hS1189.rd 1) ht1194) (fun v w1195 hR1196 => ?_)
  obtain ⟨rfl, hk_⟩ := hR1196
  have hS1197 := hS1189.keepN hk_
  refine ⟨trivial, ?_⟩
  refine seg 4 [] [0, 1, 2, 7, 67] [(0, (.slice A_p0 p0.length c_p0)), (1, (.int .i64 p1)), (2, (.int .i64 p2)), (7, (.pointer (some ⟨g1124, 0, none⟩))), (67, (.bool (!t1193)))] [] (fun fb => by kernel_rfl) rfl trivial ?_
  refine WL.done rfl ?_
  refine WX.next ?_
  rcases br_some hf with ⟨h1198, hf⟩ | ⟨h1198, hf⟩
  · refine WC.condT2 (fun fb => by kernel_rfl) h1198 ?_
    refine WC.seq ?_
    refine WC.region ?_
    refine seg 2 [] [8, 9] [(8, (.pointer none)), (9, (.int .i64 4))] [] (fun fb => by kernel_rfl) rfl trivial ?_
    refine WL.done rfl ?_
    refine WX.next ?_
    refine WC.ret ?_
    injection hf with hf
    subst hf
    exact WX.thenR (WX.ret_ [] (.tuple #[(.pointer none), (.int .i64 4)]) [] (fun fb => by kernel_rfl) trivial ⟨_, rfl, 0, none, 0, h0, rfl, hS1197.keep⟩)
  refine WC.condF2 (fun fb => by kernel_rfl) h1198 ?_
  refine WC.skip ?_
  refine WX.next ?_
  refine WC.seq ?_
  refine WC.regionD ([(5, ⟨g1124, 0, none⟩, (.slice A_p3_North p3.North.length c_p3_North)), (5, ⟨g1124, 1, none⟩, (.slice A_p3_East p3.East.length c_p3_East)), (5, ⟨g1124, 2, none⟩, (.slice A_p3_South p3.South.length c_p3_South)), (5, ⟨g1124, 3, none⟩, (.slice A_p3_West p3.West.length c_p3_West))], [0, 1, 3, 4, 5, 6, 8, 9], [[], [], [0, 1], [], [], [], [0, 1, 2, 3, 4, 5], [0, 1, 2, 3, 4, 5, 6], [0, 1, 2, 3, 4, 5, 6, 7], [0, 1, 2, 3, 4, 5, 6, 7, 8]]) [[0, 1, 3, 4, 5, 2, 6, 7, 8, 9]] (by kernel_rfl) (by kernel_rfl) (NoPanic.seq (NoPanic.body)) ?_
  have hS1212 := hS1197.drew
  revert hS1212
  generalize World.drew w1195 = w1211
  intro hS1212
  refine ⟨⟨hS1212.cell 0 rfl 0 rfl, hS1212.cell 0 rfl 1 rfl, hS1212.cell 0 rfl 2 rfl, hS1212.cell 0 rfl 3 rfl, trivial⟩, forallC ?_ (forallN)⟩
  refine segF 5 [.v (.slice A_p3_North p3.North.length c_p3_North), .v (.slice A_p3_East p3.East.length c_p3_East), .v (.slice A_p3_South p3.South.length c_p3_South), .v (.slice A_p3_West p3.West.length c_p3_West)] [68, 69, 71, 72, 73] [(68, (.slice A_p0 p0.length c_p0)), (69, (.int .i64 p1)), (71, (.int .i64 p1)), (72, (.int .i64 p2)), (73, (.agg #[(.slice A_p3_North p3.North.length c_p3_North), (.slice A_p3_East p3.East.length c_p3_East), (.slice A_p3_South p3.South.length c_p3_South), (.slice A_p3_West p3.West.length c_p3_West)]))] [] [0, 1, 2, 3] [(5, ⟨g1124, 0, none⟩, (.slice A_p3_North p3.North.length c_p3_North)), (5, ⟨g1124, 1, none⟩, (.slice A_p3_East p3.East.length c_p3_East)), (5, ⟨g1124, 2, none⟩, (.slice A_p3_South p3.South.length c_p3_South)), (5, ⟨g1124, 3, none⟩, (.slice A_p3_West p3.West.length c_p3_West))] (fun fb => by kernel_rfl) rfl trivial rfl ?_
  obtain ⟨t1213, ht1214, hf⟩ := bind_some hf
  refine WL.call (some 70) 67 #[(.slice A_p0 p0.length c_p0), (.int .i64 p1)] (fun fb => by kernel_rfl) (rows_All_calls _ p0 p1 A_p0 c_p0 t1213 _ (hS1212.rd 1) ht1214) (fun v w1215 hR1216 => ?_)
  obtain ⟨A1218, c1219, H1220, rfl, hk_⟩ := hR1216
  have hS1217 : St NoS w w1215 [nestO subN_S108 (hlN [(hd1 A_p3_North c_p3_North), (hd1 A_p3_South c_p3_South), (hd1 A_p3_East c_p3_East), (hd1 A_p3_West c_p3_West)]) [(S108.mk p3.North p1), (S108.mk p3.South p1), (S108.mk p3.East p2), (S108.mk p3.West p2)], rowR enc_Tile A_p0 c_p0 p0, rowR encInt A_p3_North c_p3_North p3.North, rowR encInt A_p3_East c_p3_East p3.East, rowR encInt A_p3_South c_p3_South p3.South, rowR encInt A_p3_West c_p3_West p3.West] [rowO 88 encN_Row A1218 c1219 (tag H1220 t1213), poolO [nestO subN_Row H1220 t1213], blk g1124 (.cells #[(.slice A_p3_North p3.North.length c_p3_North), (.slice A_p3_East p3.East.length c_p3_East), (.slice A_p3_South p3.South.length c_p3_South), (.slice A_p3_West p3.West.length c_p3_West)] 57 (0, 0))] := hS1212.call hk_ [] [0] (fun g hg => hg.elim) (by simp) (by decide)
  refine ⟨⟨hS1217.cell 2 rfl 0 rfl, hS1217.cell 2 rfl 1 rfl, hS1217.cell 2 rfl 2 rfl, hS1217.cell 2 rfl 3 rfl, trivial⟩, ?_⟩
  refine seg 7 [] [74] [(74, (.agg #[(.slice A1218 t1213.length c1219), (.int .i64 p1), (.int .i64 p2), (.slice A_p3_North p3.North.length c_p3_North), (.slice A_p3_East p3.East.length c_p3_East), (.slice A_p3_South p3.South.length c_p3_South), (.slice A_p3_West p3.West.length c_p3_West)]))] [] (fun fb => by kernel_rfl) rfl trivial ?_
  refine WL.new hS1217 75 [] (fun g => (.pointer (some ⟨g, 0, none⟩))) (.cells #[(.slice A1218 t1213.length c1219), (.int .i64 p1), (.int .i64 p2), (.slice A_p3_North p3.North.length c_p3_North), (.slice A_p3_East p3.East.length c_p3_East), (.slice A_p3_South p3.South.length c_p3_South), (.slice A_p3_West p3.West.length c_p3_West)] 84 (0, 0)) [] (fun fb g => by kernel_rfl) trivial (fun g1221 w1222 hS1223 => ?_)
  refine ⟨trivial, ?_⟩
  refine seg 10 [] [8, 9] [(8, (.pointer (some ⟨g1221, 0, none⟩))), (9, (.int .i64 0))] [] (fun fb => by kernel_rfl) rfl trivial ?_
  refine WL.done rfl ?_
  refine WX.next ?_
  refine WC.ret ?_
  injection hf with hf
  subst hf
  exact WX.ret_ [] (.tuple #[(.pointer (some ⟨g1221, 0, none⟩)), (.int .i64 0)]) [] (fun fb => by kernel_rfl) trivial ⟨_, rfl, g1221, A1218, c1219, H1220, rfl, (hS1223.sub [0, 1, 2] (by decide)).noR⟩
theorem fill_at_calls (p0 : List Int) (p1 : Int) (p2 : Int) (A_p0 : Option Addr) (c_p0 : Nat) (r : Bool) (w : World) (hR0 : RO NoS w (rowR encInt A_p0 c_p0 p0)) (hf : fill_at p0 p1 p2 = some r) :
    CallsR Try.prog 68 #[(.slice A_p0 p0.length c_p0), (.int .i64 p1), (.int .i64 p2)] w (fun v w' => v = (.bool r) ∧ Keeps NoS w w') := by
  have hS : St NoS w w [rowR encInt A_p0 c_p0 p0] [] := St.init (ro_cons hR0 (ro_nil _ _))
  refine enter 18 Try.func68 rfl Try.ntmps68 rfl ?_
  unfold fill_at at hf
  refine WC.seq ?_
  refine WC.region ?_
  refine seg 1 [] [0, 1, 2] [(0, (.slice A_p0 p0.length c_p0)), (1, (.int .i64 p1)), (2, (.int .i64 p2))] [] (fun fb => by kernel_rfl) rfl trivial ?_
  refine WL.done rfl ?_
  refine WX.next ?_
  refine WC.seq ?_
  refine WC.region ?_
  refine seg 4 [] [0, 1, 2, 10] [(0, (.slice A_p0 p0.length c_p0)), (1, (.int .i64 p1)), (2, (.int .i64 p2)), (10, (.bool ((p0.length : Int) == 0)))] [] (fun fb => by kernel_rfl) rfl trivial ?_
  obtain ⟨b1327, hv1328, hf⟩ := bind_some hf
  refine WL.cutV (T := Unit) 11 (fun t => [(17, (.bool b1327))]) (fun t => True) (fun K => ?_) ?_
  ·
    rcases br_some hv1328 with ⟨h1329, hv1328⟩ | ⟨h1329, hv1328⟩
    ·
      refine WL.setB 10 h1329 rfl ?_
      refine seg 11 [] [17] [(17, (.bool true))] [] (fun fb => by kernel_rfl) rfl trivial ?_
      injection hv1328 with hv1328
      subst hv1328
      exact WL.toV K () [17] rfl trivial
    refine WL.setB 10 h1329 rfl ?_
    refine seg 6 [] [2, 10, 11, 12] [(2, (.int .i64 p2)), (10, (.bool false)), (11, (.slice A_p0 p0.length c_p0)), (12, (.int .i64 p1))] [] (fun fb => by kernel_rfl) rfl trivial ?_
    obtain ⟨h1330, hv1328⟩ := as_some hv1328
    refine seg 11 [.v (.int .i64 (rdD p0 p1 0))] [17] [(17, (.bool ((rdD p0 p1 0) == p2)))] [.idx A_p0 p1 p0.length, .cell ((adr A_p0).add ((p1).toNat * 1)) (.int .i64 (rdD p0 p1 0))] (fun fb => by kernel_rfl) rfl ⟨rowR.adr (hS.rd 0).1 h1330.1 h1330.2, rowR.cell (hS.rd 0).1 0 h1330.1 h1330.2 0 rfl, trivial⟩ ?_
    injection hv1328 with hv1328
    subst hv1328
    exact WL.toV K () [17] rfl trivial
  rintro _ _
  refine seg 12 [] [6] [(6, (.bool b1327))] [] (fun fb => by kernel_rfl) rfl trivial ?_
  refine WL.done rfl ?_
  refine WX.next ?_
  refine WC.ret ?_
  injection hf with hf
  subst hf
  exact WX.ret_ [] (.bool b1327) [] (fun fb => by kernel_rfl) trivial ⟨_, rfl, rfl, hS.keep⟩
theorem fill_job_allows_calls (k : Nat) (p0 : Job) (p1 : Row) (p2 : Int) (g_p0 : Nat) (A_p0_rows : Option Addr) (c_p0_rows : Nat) (H_p0_rows : Nat → HF) (A_p0_edges_North : Option Addr) (c_p0_edges_North : Nat) (A_p0_edges_East : Option Addr) (c_p0_edges_East : Nat) (A_p0_edges_South : Option Addr) (c_p0_edges_South : Nat) (A_p0_edges_West : Option Addr) (c_p0_edges_West : Nat) (A_p1_Cells : Option Addr) (c_p1_Cells : Nat) (r : Bool) (w : World) (hR0 : RO NoS w (blk g_p0 (.cells #[(.slice A_p0_rows p0.rows.length c_p0_rows), (.int .i64 p0.width), (.int .i64 p0.height), (.slice A_p0_edges_North p0.edges.North.length c_p0_edges_North), (.slice A_p0_edges_East p0.edges.East.length c_p0_edges_East), (.slice A_p0_edges_South p0.edges.South.length c_p0_edges_South), (.slice A_p0_edges_West p0.edges.West.length c_p0_edges_West)] 84 (0, 0)))) (hR1 : RO NoS w (rowR encN_Row A_p0_rows c_p0_rows (tag H_p0_rows p0.rows))) (hR2 : RO NoS w (nestO subN_Row H_p0_rows p0.rows)) (hR3 : RO NoS w (rowR encInt A_p0_edges_North c_p0_edges_North p0.edges.North)) (hR4 : RO NoS w (rowR encInt A_p0_edges_East c_p0_edges_East p0.edges.East)) (hR5 : RO NoS w (rowR encInt A_p0_edges_South c_p0_edges_South p0.edges.South)) (hR6 : RO NoS w (rowR encInt A_p0_edges_West c_p0_edges_West p0.edges.West)) (hR7 : RO NoS w (rowR encInt A_p1_Cells c_p1_Cells p1.Cells)) (hf : fill_job_allows k p0 p1 p2 = some r) :
    CallsR Try.prog 55 #[(.pointer (some ⟨g_p0, 0, none⟩)), (.agg #[(.slice A_p1_Cells p1.Cells.length c_p1_Cells), (.int .i64 p1.South.e0), (.int .i64 p1.South.e1), (.int .i64 p1.South.e2), (.int .i64 p1.South.e3), (.int .i64 p1.South.e4), (.int .i64 p1.South.e5), (.int .i64 p1.South.e6), (.int .i64 p1.South.e7), (.int .i64 p1.North.e0), (.int .i64 p1.North.e1), (.int .i64 p1.North.e2), (.int .i64 p1.North.e3), (.int .i64 p1.North.e4), (.int .i64 p1.North.e5), (.int .i64 p1.North.e6), (.int .i64 p1.North.e7), (.int .i64 p1.West), (.int .i64 p1.East)]), (.int .i64 p2)] w (fun v w' => v = (.bool r) ∧ Keeps NoS w w') := by
  have hS : St NoS w w [blk g_p0 (.cells #[(.slice A_p0_rows p0.rows.length c_p0_rows), (.int .i64 p0.width), (.int .i64 p0.height), (.slice A_p0_edges_North p0.edges.North.length c_p0_edges_North), (.slice A_p0_edges_East p0.edges.East.length c_p0_edges_East), (.slice A_p0_edges_South p0.edges.South.length c_p0_edges_South), (.slice A_p0_edges_West p0.edges.West.length c_p0_edges_West)] 84 (0, 0)), rowR encN_Row A_p0_rows c_p0_rows (tag H_p0_rows p0.rows), nestO subN_Row H_p0_rows p0.rows, rowR encInt A_p0_edges_North c_p0_edges_North p0.edges.North, rowR encInt A_p0_edges_East c_p0_edges_East p0.edges.East, rowR encInt A_p0_edges_South c_p0_edges_South p0.edges.South, rowR encInt A_p0_edges_West c_p0_edges_West p0.edges.West, rowR encInt A_p1_Cells c_p1_Cells p1.Cells] [] := St.init (ro_cons hR0 (ro_cons hR1 (ro_cons hR2 (ro_cons hR3 (ro_cons hR4 (ro_cons hR5 (ro_cons hR6 (ro_cons hR7 (ro_nil _ _)))))))))
  refine enter 77 Try.func55 rfl Try.ntmps55 rfl ?_
  unfold fill_job_allows at hf
  refine WC.seq ?_
  refine WC.region ?_
  refine WL.new hS 4 [] (fun g => (.pointer (some ⟨g, 0, none⟩))) (.cells #[(.slice A_p1_Cells p1.Cells.length c_p1_Cells), (.int .i64 p1.South.e0), (.int .i64 p1.South.e1), (.int .i64 p1.South.e2), (.int .i64 p1.South.e3), (.int .i64 p1.South.e4), (.int .i64 p1.South.e5), (.int .i64 p1.South.e6), (.int .i64 p1.South.e7), (.int .i64 p1.North.e0), (.int .i64 p1.North.e1), (.int .i64 p1.North.e2), (.int .i64 p1.North.e3), (.int .i64 p1.North.e4), (.int .i64 p1.North.e5), (.int .i64 p1.North.e6), (.int .i64 p1.North.e7), (.int .i64 p1.West), (.int .i64 p1.East)] 88 (0, 0)) [] (fun fb g => by kernel_rfl) trivial (fun g1322 w1323 hS1324 => ?_)
  refine ⟨trivial, ?_⟩
  refine seg 2 [] [0, 2, 4] [(0, (.pointer (some ⟨g_p0, 0, none⟩))), (2, (.int .i64 p2)), (4, (.pointer (some ⟨g1322, 0, none⟩)))] [] (fun fb => by kernel_rfl) rfl trivial ?_
  refine WL.done rfl ?_
  refine WX.next ?_
  refine WC.seq ?_
  refine WC.seq ?_
  refine WC.regionD ([(4, ⟨g_p0, 6, none⟩, (.slice A_p0_edges_West p0.edges.West.length c_p0_edges_West)), (7, ⟨g1322, 17, none⟩, (.int .i64 p1.West)), (18, ⟨g1322, 18, none⟩, (.int .i64 p1.East))], [0, 1, 2, 3, 4, 5, 6, 7, 9, 10, 11, 12, 13, 14, 16, 17, 18, 20, 21], [[], [0], [0, 1], [0, 1, 2], [0, 1, 2, 3], [], [], [6], [0, 1, 2, 3, 4, 5, 6, 7], [0, 1, 2, 3, 4, 5, 6, 7, 8], [0, 1, 2, 3, 4, 5, 6, 7, 8, 9], [0, 1, 2, 3, 4, 5, 6, 7, 8, 9, 10], [0, 1, 2, 3, 4, 5, 6, 7, 8, 9, 10, 11], [0, 1, 2, 3, 4, 5, 6, 7, 8, 9, 10, 11, 12], [0, 1, 2, 3, 4, 5, 6, 7, 8, 9, 10, 11, 12, 13], [0, 1, 2, 3, 4, 5, 6, 7, 8, 9, 10, 11, 12, 13, 14], [0, 1, 2, 3, 4, 5, 6, 7, 8, 9, 10], [0, 1, 2, 3, 4, 5, 6, 7, 8, 9, 10], [0, 1, 2, 3, 4, 5, 6, 7, 8, 9, 10, 17], [0, 1, 2, 3, 4, 5, 6, 7, 8, 9, 10, 11, 12, 13, 14, 15, 16, 17, 18], [0, 1, 2, 3, 4, 5, 6, 7, 8, 9, 10, 11, 12, 13, 14, 15, 16, 17, 18, 19], [0, 1, 2, 3, 4, 5, 6, 7, 8, 9, 10, 11, 12, 13, 14, 15, 16, 17, 18, 19, 20]]) [[0, 1, 2, 3, 4, 5, 6, 7, 8, 9, 10, 11, 12, 13, 14, 16, 17, 18, 15, 19, 20, 21]] (by kernel_rfl) (by kernel_rfl) (NoPanic.seq (NoPanic.seq (NoPanic.body))) ?_
  have hS1356 := hS1324.drew
  revert hS1356
  generalize World.drew w1323 = w1355
  intro hS1356
  refine ⟨⟨blk_cell (hS1356.rd 0).1 6 rfl, hS1356.cell 0 rfl 17 rfl, hS1356.cell 0 rfl 18 rfl, trivial⟩, forallC ?_ (forallN)⟩
  refine segF 8 [.v (.slice A_p0_edges_West p0.edges.West.length c_p0_edges_West), .v (.int .i64 p1.West)] [0, 2, 4, 12, 13, 15] [(0, (.pointer (some ⟨g_p0, 0, none⟩))), (2, (.int .i64 p2)), (4, (.pointer (some ⟨g1322, 0, none⟩))), (12, (.slice A_p0_edges_West p0.edges.West.length c_p0_edges_West)), (13, (.int .i64 p2)), (15, (.int .i64 p1.West))] [] [0, 1] [(4, ⟨g_p0, 6, none⟩, (.slice A_p0_edges_West p0.edges.West.length c_p0_edges_West)), (7, ⟨g1322, 17, none⟩, (.int .i64 p1.West))] (fun fb => by kernel_rfl) rfl trivial rfl ?_
  obtain ⟨t1357, ht1358, hf⟩ := bind_some hf
  refine WL.call (some 16) 68 #[(.slice A_p0_edges_West p0.edges.West.length c_p0_edges_West), (.int .i64 p2), (.int .i64 p1.West)] (fun fb => by kernel_rfl) (fill_at_calls p0.edges.West p2 p1.West A_p0_edges_West c_p0_edges_West t1357 _ (hS1356.rd 6) ht1358) (fun v w1359 hR1360 => ?_)
  obtain ⟨rfl, hk_⟩ := hR1360
  have hS1361 := hS1356.keepN hk_
  refine ⟨⟨hS1361.cell 0 rfl 18 rfl, trivial⟩, ?_⟩
  refine seg 11 [] [0, 2, 4, 18] [(0, (.pointer (some ⟨g_p0, 0, none⟩))), (2, (.int .i64 p2)), (4, (.pointer (some ⟨g1322, 0, none⟩))), (18, (.bool (!t1357)))] [] (fun fb => by kernel_rfl) rfl trivial ?_
  obtain ⟨x1368, hx1369, hf⟩ := bind_some hf
  refine WL.cutW (T := Bool) 22 (fun t => [(0, (.pointer (some ⟨g_p0, 0, none⟩))), (2, (.int .i64 p2)), (4, (.pointer (some ⟨g1322, 0, none⟩))), (29, (.bool t))]) (fun t w1 => (St NoS w w1 [blk g_p0 (.cells #[(.slice A_p0_rows p0.rows.length c_p0_rows), (.int .i64 p0.width), (.int .i64 p0.height), (.slice A_p0_edges_North p0.edges.North.length c_p0_edges_North), (.slice A_p0_edges_East p0.edges.East.length c_p0_edges_East), (.slice A_p0_edges_South p0.edges.South.length c_p0_edges_South), (.slice A_p0_edges_West p0.edges.West.length c_p0_edges_West)] 84 (0, 0)), rowR encN_Row A_p0_rows c_p0_rows (tag H_p0_rows p0.rows), nestO subN_Row H_p0_rows p0.rows, rowR encInt A_p0_edges_North c_p0_edges_North p0.edges.North, rowR encInt A_p0_edges_East c_p0_edges_East p0.edges.East, rowR encInt A_p0_edges_South c_p0_edges_South p0.edges.South, rowR encInt A_p0_edges_West c_p0_edges_West p0.edges.West, rowR encInt A_p1_Cells c_p1_Cells p1.Cells] [blk g1322 (.cells #[(.slice A_p1_Cells p1.Cells.length c_p1_Cells), (.int .i64 p1.South.e0), (.int .i64 p1.South.e1), (.int .i64 p1.South.e2), (.int .i64 p1.South.e3), (.int .i64 p1.South.e4), (.int .i64 p1.South.e5), (.int .i64 p1.South.e6), (.int .i64 p1.South.e7), (.int .i64 p1.North.e0), (.int .i64 p1.North.e1), (.int .i64 p1.North.e2), (.int .i64 p1.North.e3), (.int .i64 p1.North.e4), (.int .i64 p1.North.e5), (.int .i64 p1.North.e6), (.int .i64 p1.North.e7), (.int .i64 p1.West), (.int .i64 p1.East)] 88 (0, 0))] ∧ x1368 = t) ∧ CellsOK [] w1) (fun K => ?_) ?_
  ·
    rcases br_some hx1369 with ⟨h1370, hx1369⟩ | ⟨h1370, hx1369⟩
    ·
      refine WL.setB 18 h1370 rfl ?_
      refine seg 22 [] [0, 2, 4, 29] [(0, (.pointer (some ⟨g_p0, 0, none⟩))), (2, (.int .i64 p2)), (4, (.pointer (some ⟨g1322, 0, none⟩))), (29, (.bool true))] [] (fun fb => by kernel_rfl) rfl trivial ?_
      injection hx1369 with hx1369
      exact WL.to K true [0, 2, 4, 29] rfl ⟨⟨(hS1361.subR [0, 1, 2, 3, 4, 5, 6, 7]).sub [0] (by decide), hx1369.symm⟩, trivial⟩
    refine WL.setB 18 h1370 rfl ?_
    refine segF 19 [.v (.int .i64 p1.East), .v (.slice A_p0_edges_East p0.edges.East.length c_p0_edges_East)] [0, 2, 4, 18, 23, 24, 26] [(0, (.pointer (some ⟨g_p0, 0, none⟩))), (2, (.int .i64 p2)), (4, (.pointer (some ⟨g1322, 0, none⟩))), (18, (.bool false)), (23, (.slice A_p0_edges_East p0.edges.East.length c_p0_edges_East)), (24, (.int .i64 p2)), (26, (.int .i64 p1.East))] [.cell ⟨g_p0, 4, none⟩ (.slice A_p0_edges_East p0.edges.East.length c_p0_edges_East)] [2] [(18, ⟨g1322, 18, none⟩, (.int .i64 p1.East))] (fun fb => by kernel_rfl) rfl ⟨blk_cell (hS1361.rd 0).1 4 rfl, trivial⟩ rfl ?_
    obtain ⟨t1371, ht1372, hx1369⟩ := bind_some hx1369
    refine WL.call (some 27) 68 #[(.slice A_p0_edges_East p0.edges.East.length c_p0_edges_East), (.int .i64 p2), (.int .i64 p1.East)] (fun fb => by kernel_rfl) (fill_at_calls p0.edges.East p2 p1.East A_p0_edges_East c_p0_edges_East t1371 _ (hS1361.rd 4) ht1372) (fun v w1373 hR1374 => ?_)
    obtain ⟨rfl, hk_⟩ := hR1374
    have hS1375 := hS1361.keepN hk_
    refine ⟨trivial, ?_⟩
    refine seg 22 [] [0, 2, 4, 29] [(0, (.pointer (some ⟨g_p0, 0, none⟩))), (2, (.int .i64 p2)), (4, (.pointer (some ⟨g1322, 0, none⟩))), (29, (.bool (!t1371)))] [] (fun fb => by kernel_rfl) rfl trivial ?_
    injection hx1369 with hx1369
    exact WL.to K (!t1371) [0, 2, 4, 29] rfl ⟨⟨(hS1375.subR [0, 1, 2, 3, 4, 5, 6, 7]).sub [0] (by decide), hx1369.symm⟩, trivial⟩
  rintro y1376 w1378 ⟨⟨hS1379, hq1377⟩, hF1380⟩
  subst hq1377
  refine WL.done rfl ?_
  refine WX.next ?_
  rcases br_some hf with ⟨h1381, hf⟩ | ⟨h1381, hf⟩
  · refine WC.condT2 (fun fb => by kernel_rfl) h1381 ?_
    refine WC.seq ?_
    refine WC.region ?_
    refine seg 1 [] [6] [(6, (.bool false))] [] (fun fb => by kernel_rfl) rfl trivial ?_
    refine WL.done rfl ?_
    refine WX.next ?_
    refine WC.ret ?_
    injection hf with hf
    subst hf
    exact WX.thenR (WX.ret_ [] (.bool false) [] (fun fb => by kernel_rfl) trivial ⟨_, rfl, rfl, hS1379.keep⟩)
  refine WC.condF2 (fun fb => by kernel_rfl) h1381 ?_
  refine WC.skip ?_
  refine WX.next ?_
  refine WC.seq ?_
  refine WC.seq ?_
  refine WC.region ?_
  refine seg 5 [.v (.int .i64 p0.width)] [0, 2, 4, 33, 34] [(0, (.pointer (some ⟨g_p0, 0, none⟩))), (2, (.int .i64 p2)), (4, (.pointer (some ⟨g1322, 0, none⟩))), (33, (.int .i64 p0.width)), (34, (.int .i64 0))] [.cell ⟨g_p0, 1, none⟩ (.int .i64 p0.width)] (fun fb => by kernel_rfl) rfl ⟨blk_cell (hS1379.rd 0).1 1 rfl, trivial⟩ ?_
  refine WL.done rfl ?_
  refine WX.next ?_
  obtain ⟨x1918, hx1919, hf⟩ := bind_some hf
  refine WC.cutN (T := Unit) (fun t => []) (fun t w1 => St NoS w w1 [blk g_p0 (.cells #[(.slice A_p0_rows p0.rows.length c_p0_rows), (.int .i64 p0.width), (.int .i64 p0.height), (.slice A_p0_edges_North p0.edges.North.length c_p0_edges_North), (.slice A_p0_edges_East p0.edges.East.length c_p0_edges_East), (.slice A_p0_edges_South p0.edges.South.length c_p0_edges_South), (.slice A_p0_edges_West p0.edges.West.length c_p0_edges_West)] 84 (0, 0)), rowR encN_Row A_p0_rows c_p0_rows (tag H_p0_rows p0.rows), nestO subN_Row H_p0_rows p0.rows, rowR encInt A_p0_edges_North c_p0_edges_North p0.edges.North, rowR encInt A_p0_edges_East c_p0_edges_East p0.edges.East, rowR encInt A_p0_edges_South c_p0_edges_South p0.edges.South, rowR encInt A_p0_edges_West c_p0_edges_West p0.edges.West, rowR encInt A_p1_Cells c_p1_Cells p1.Cells] [] ∧ x1918 = .inr t) (fun Kx1918 => ?_) ?_
  ·
    refine WC.block ?_
    refine WC.loop (T := Int) (fun t => [(0, (.pointer (some ⟨g_p0, 0, none⟩))), (2, (.int .i64 p2)), (4, (.pointer (some ⟨g1322, 0, none⟩))), (33, (.int .i64 p0.width)), (34, (.int .i64 t))]) (fun n t w1 => St NoS w w1 [blk g_p0 (.cells #[(.slice A_p0_rows p0.rows.length c_p0_rows), (.int .i64 p0.width), (.int .i64 p0.height), (.slice A_p0_edges_North p0.edges.North.length c_p0_edges_North), (.slice A_p0_edges_East p0.edges.East.length c_p0_edges_East), (.slice A_p0_edges_South p0.edges.South.length c_p0_edges_South), (.slice A_p0_edges_West p0.edges.West.length c_p0_edges_West)] 84 (0, 0)), rowR encN_Row A_p0_rows c_p0_rows (tag H_p0_rows p0.rows), nestO subN_Row H_p0_rows p0.rows, rowR encInt A_p0_edges_North c_p0_edges_North p0.edges.North, rowR encInt A_p0_edges_East c_p0_edges_East p0.edges.East, rowR encInt A_p0_edges_South c_p0_edges_South p0.edges.South, rowR encInt A_p0_edges_West c_p0_edges_West p0.edges.West, rowR encInt A_p1_Cells c_p1_Cells p1.Cells] [blk g1322 (.cells #[(.slice A_p1_Cells p1.Cells.length c_p1_Cells), (.int .i64 p1.South.e0), (.int .i64 p1.South.e1), (.int .i64 p1.South.e2), (.int .i64 p1.South.e3), (.int .i64 p1.South.e4), (.int .i64 p1.South.e5), (.int .i64 p1.South.e6), (.int .i64 p1.South.e7), (.int .i64 p1.North.e0), (.int .i64 p1.North.e1), (.int .i64 p1.North.e2), (.int .i64 p1.North.e3), (.int .i64 p1.North.e4), (.int .i64 p1.North.e5), (.int .i64 p1.North.e6), (.int .i64 p1.North.e7), (.int .i64 p1.West), (.int .i64 p1.East)] 88 (0, 0))] ∧ fill_job_allows.l0 n t p0 p1 p2 = some x1918) k 0 [0, 2, 4, 33, 34] rfl ⟨(hS1379.subR [0, 1, 2, 3, 4, 5, 6, 7]).sub [0] (by decide), hx1919⟩ ?_
    rintro k1920 x1917 w1921 ⟨hS1922, hl1923⟩
    cases k1920 with
    | zero => rw [fill_job_allows.l0] at hl1923; cases hl1923
    | succ k1920 =>
      rw [fill_job_allows.l0] at hl1923
      refine WC.seq ?_
      refine WC.region ?_
      refine seg 1 [] [0, 2, 4, 33, 34, 35] [(0, (.pointer (some ⟨g_p0, 0, none⟩))), (2, (.int .i64 p2)), (4, (.pointer (some ⟨g1322, 0, none⟩))), (33, (.int .i64 p0.width)), (34, (.int .i64 x1917)), (35, (.bool (decide (x1917 < p0.width))))] [] (fun fb => by kernel_rfl) rfl trivial ?_
      refine WL.done rfl ?_
      refine WX.next ?_
      refine WC.seq ?_
      rcases br_some hl1923 with ⟨h1924, hl1923⟩ | ⟨h1924, hl1923⟩
      · refine WC.condT2 (fun fb => by kernel_rfl) h1924 ?_
        refine WC.skip ?_
        refine WX.next ?_
        refine WC.seq ?_
        refine WC.block ?_
        refine WC.seq ?_
        refine WC.region ?_
        refine seg 2 [] [0, 2, 4, 7, 33, 34] [(0, (.pointer (some ⟨g_p0, 0, none⟩))), (2, (.int .i64 p2)), (4, (.pointer (some ⟨g1322, 0, none⟩))), (7, (.int .i64 x1917)), (33, (.int .i64 p0.width)), (34, (.int .i64 x1917))] [] (fun fb => by kernel_rfl) rfl trivial ?_
        refine WL.done rfl ?_
        refine WX.next ?_
        refine WC.seq ?_
        obtain ⟨x2060, hx2061, hl1923⟩ := bind_some hl1923
        refine WC.cutN (T := Bool) (fun t => [(0, (.pointer (some ⟨g_p0, 0, none⟩))), (2, (.int .i64 p2)), (4, (.pointer (some ⟨g1322, 0, none⟩))), (33, (.int .i64 p0.width)), (34, (.int .i64 x1917)), (75, (.bool t))]) (fun t w1 => St NoS w w1 [blk g_p0 (.cells #[(.slice A_p0_rows p0.rows.length c_p0_rows), (.int .i64 p0.width), (.int .i64 p0.height), (.slice A_p0_edges_North p0.edges.North.length c_p0_edges_North), (.slice A_p0_edges_East p0.edges.East.length c_p0_edges_East), (.slice A_p0_edges_South p0.edges.South.length c_p0_edges_South), (.slice A_p0_edges_West p0.edges.West.length c_p0_edges_West)] 84 (0, 0)), rowR encN_Row A_p0_rows c_p0_rows (tag H_p0_rows p0.rows), nestO subN_Row H_p0_rows p0.rows, rowR encInt A_p0_edges_North c_p0_edges_North p0.edges.North, rowR encInt A_p0_edges_East c_p0_edges_East p0.edges.East, rowR encInt A_p0_edges_South c_p0_edges_South p0.edges.South, rowR encInt A_p0_edges_West c_p0_edges_West p0.edges.West, rowR encInt A_p1_Cells c_p1_Cells p1.Cells] [blk g1322 (.cells #[(.slice A_p1_Cells p1.Cells.length c_p1_Cells), (.int .i64 p1.South.e0), (.int .i64 p1.South.e1), (.int .i64 p1.South.e2), (.int .i64 p1.South.e3), (.int .i64 p1.South.e4), (.int .i64 p1.South.e5), (.int .i64 p1.South.e6), (.int .i64 p1.South.e7), (.int .i64 p1.North.e0), (.int .i64 p1.North.e1), (.int .i64 p1.North.e2), (.int .i64 p1.North.e3), (.int .i64 p1.North.e4), (.int .i64 p1.North.e5), (.int .i64 p1.North.e6), (.int .i64 p1.North.e7), (.int .i64 p1.West), (.int .i64 p1.East)] 88 (0, 0))] ∧ x2060 = t) (fun Kx2060 => ?_) ?_
        ·
          rcases br_some hx2061 with ⟨h2062, hx2061⟩ | ⟨h2062, hx2061⟩
          ·
            rcases br_some hx2061 with ⟨h2069, hx2061⟩ | ⟨h2069, hx2061⟩
            ·
              obtain ⟨h2098, hx2061⟩ := as_some hx2061
              refine WC.regionD ([(7, ⟨g_p0, 5, none⟩, (.slice A_p0_edges_South p0.edges.South.length c_p0_edges_South)), (12, (flatA ⟨g1322, 1, none⟩ (x1917.toNat * 1)), (.int .i64 (A8_Int.get p1.South x1917)))], [0, 1, 2, 3, 4, 5, 6, 7, 8, 9, 10, 11, 12, 14, 15, 16, 17, 18, 19, 20, 22, 23, 24, 25, 26, 27, 28, 30, 31, 32, 33, 36, 37, 38], [[], [0], [0, 1], [0, 1, 2], [0, 1, 2, 3], [0, 1, 2, 3, 4], [0, 1, 2, 3, 4, 5], [0, 1, 2, 3, 4, 5, 6], [0, 1, 2], [0, 1, 2], [0, 1, 2], [0, 1, 2, 9, 10], [0, 1, 2, 9, 10, 11], [0, 1, 2, 3, 4, 5, 6, 7, 8, 9, 10, 11, 12], [0, 1, 2, 3, 4, 5, 6, 7, 8, 9, 10, 11, 12, 13], [0, 1, 2, 3, 4, 5, 6, 7, 8, 9, 10, 11, 12, 13, 14], [0, 1, 2, 3, 4, 5, 6, 7, 8, 9, 10, 11, 12, 13, 14, 15], [0, 1, 2, 3, 4, 5, 6, 7, 8, 9, 10, 11, 12, 13, 14, 15, 16], [0, 1, 2, 3, 4, 5, 6, 7, 8, 9, 10, 11, 12, 13, 14, 15, 16], [0, 1, 2, 3, 4, 5, 6, 7, 8, 9, 10, 11, 12, 13, 14, 15, 16, 18], [0, 1, 2, 3, 4, 5, 6, 7, 8, 9, 10, 11, 12, 13, 14, 15, 16, 18, 19], [0, 1, 2, 3, 4, 5, 6, 7, 8, 9, 10, 11, 12, 13, 14, 15, 16, 18, 19, 20], [0, 1, 2, 3, 4, 5, 6, 7, 8, 9, 10, 11, 12, 13, 14, 15, 16, 18, 19, 20, 21], [0, 1, 2, 3, 4, 5, 6, 7, 8, 9, 10, 11, 12, 13, 14, 15, 16, 17, 18, 19, 20, 21, 22], [0, 1, 2, 3, 4, 5, 6, 7, 8, 9, 10, 11, 12, 13, 14, 15, 16, 17, 18, 19, 20, 21, 22, 23], [0, 1, 2, 3, 4, 5, 6, 7, 8, 9, 10, 11, 12, 13, 14, 15, 16, 17, 18, 19, 20, 21, 22, 23, 24], [0, 1, 2, 3, 4, 5, 6, 7, 8, 9, 10, 11, 12, 13, 14, 15, 16, 17, 18, 19, 20, 21, 22, 23, 24, 25], [0, 1, 2, 3, 4, 5, 6, 7, 8, 9, 10, 11, 12, 13, 14, 15, 16, 17, 18, 19, 20, 21, 22, 23, 24, 25, 26], [0, 1, 2, 3, 4, 5, 6, 7, 8, 9, 10, 11, 12, 13, 14, 15, 16, 17, 18, 19, 20, 21, 22, 23, 24, 25, 26, 27], [0, 1, 2, 3, 4, 5, 6, 7, 8, 9, 10, 11, 12, 13, 14, 15, 16, 17, 18, 19, 20, 21, 22, 23, 24, 25, 26, 27, 28], [0, 1, 2, 3, 4, 5, 6, 7, 8, 9, 10, 11, 12, 13, 14, 15, 16, 17, 18, 19, 20, 21, 22, 23, 24], [0, 1, 2, 3, 4, 5, 6, 7, 8, 9, 10, 11, 12, 13, 14, 15, 16, 17, 18, 19, 20, 21, 22, 23, 24], [0, 1, 2, 3, 4, 5, 6, 7, 8, 9, 10, 11, 12, 13, 14, 15, 16, 17, 18, 19, 20, 21, 22, 23, 24], [0, 1, 2, 3, 4, 5, 6, 7, 8, 9, 10, 11, 12, 13, 14, 15, 16, 17, 18, 19, 20, 21, 22, 23, 24, 31, 32], [0, 1, 2, 3, 4, 5, 6, 7, 8, 9, 10, 11, 12, 13, 14, 15, 16, 17, 18, 19, 20, 21, 22, 23, 24, 31, 32, 33], [0, 1, 2, 3, 4, 5, 6, 7, 8, 9, 10, 11, 12, 13, 14, 15, 16, 17, 18, 19, 20, 21, 22, 23, 24, 25, 26, 27, 28, 29, 30, 31, 32, 33, 34], [0, 1, 2, 3, 4, 5, 6, 7, 8, 9, 10, 11, 12, 13, 14, 15, 16, 17, 18, 19, 20, 21, 22, 23, 24, 25, 26, 27, 28, 29, 30, 31, 32, 33, 34, 35], [0, 1, 2, 3, 4, 5, 6, 7, 8, 9, 10, 11, 12, 13, 14, 15, 16, 17, 18, 19, 20, 21, 22, 23, 24, 25, 26, 27, 28, 29, 30, 31, 32, 33, 34, 35, 36], [0, 1, 2, 3, 4, 5, 6, 7, 8, 9, 10, 11, 12, 13, 14, 15, 16, 17, 18, 19, 20, 21, 22, 23, 24, 25, 26, 27, 28, 29, 30, 31, 32, 33, 34, 35, 36, 37]]) [[0, 1, 2, 3, 4, 5, 6, 7, 8, 9, 10, 11, 12, 13, 14, 15, 16, 17, 18, 19, 20, 21, 22, 23, 24, 25, 26, 27, 28, 30, 31, 32, 33, 29, 34, 35, 36, 37, 38], [0, 1, 2, 3, 4, 5, 6, 7, 8, 9, 10, 11, 12, 13, 14, 15, 16, 17, 18, 19, 20, 21, 22, 23, 24, 25, 26, 27, 28, 30, 31, 32, 33, 34, 29, 35, 36, 37, 38]] (by kernel_rfl) (by kernel_rfl) (NoPanic.seq (NoPanic.block (NoPanic.seq (NoPanic.seq (NoPanic.block (NoPanic.seq (NoPanic.body))))))) ?_
              have hS2096 := hS1922.drew
              revert hS2096
              generalize World.drew w1921 = w2095
              intro hS2096
              refine ⟨⟨blk_cell (hS2096.rd 0).1 5 rfl, hS2096.cell 0 rfl _ (cases8 (Q := fun z_ => (#[(.slice A_p1_Cells p1.Cells.length c_p1_Cells), (.int .i64 p1.South.e0), (.int .i64 p1.South.e1), (.int .i64 p1.South.e2), (.int .i64 p1.South.e3), (.int .i64 p1.South.e4), (.int .i64 p1.South.e5), (.int .i64 p1.South.e6), (.int .i64 p1.South.e7), (.int .i64 p1.North.e0), (.int .i64 p1.North.e1), (.int .i64 p1.North.e2), (.int .i64 p1.North.e3), (.int .i64 p1.North.e4), (.int .i64 p1.North.e5), (.int .i64 p1.North.e6), (.int .i64 p1.North.e7), (.int .i64 p1.West), (.int .i64 p1.East)] : Array Value)[1 + z_.toNat * 1]? = some (.int .i64 (A8_Int.get p1.South z_))) h2098 (by kernel_rfl) (by kernel_rfl) (by kernel_rfl) (by kernel_rfl) (by kernel_rfl) (by kernel_rfl) (by kernel_rfl) (by kernel_rfl)), trivial⟩, forallC ?_ (forallC ?_ (forallN))⟩
              ·
                refine seg 3 [] [0, 2, 4, 7, 33, 34, 39] [(0, (.pointer (some ⟨g_p0, 0, none⟩))), (2, (.int .i64 p2)), (4, (.pointer (some ⟨g1322, 0, none⟩))), (7, (.int .i64 x1917)), (33, (.int .i64 p0.width)), (34, (.int .i64 x1917)), (39, (.bool (p2 == 0)))] [] (fun fb => by kernel_rfl) rfl trivial ?_
                refine WL.setB 39 h2062 rfl ?_
                refine segF 13 [.v (.slice A_p0_edges_South p0.edges.South.length c_p0_edges_South), .v (.int .i64 (A8_Int.get p1.South x1917))] [0, 2, 4, 7, 33, 34, 39, 44, 45, 49] [(0, (.pointer (some ⟨g_p0, 0, none⟩))), (2, (.int .i64 p2)), (4, (.pointer (some ⟨g1322, 0, none⟩))), (7, (.int .i64 x1917)), (33, (.int .i64 p0.width)), (34, (.int .i64 x1917)), (39, (.bool true)), (44, (.slice A_p0_edges_South p0.edges.South.length c_p0_edges_South)), (45, (.int .i64 x1917)), (49, (.int .i64 (A8_Int.get p1.South x1917)))] [.idx (some ⟨0, 0, none⟩) x1917 8] [0, 1] [(7, ⟨g_p0, 5, none⟩, (.slice A_p0_edges_South p0.edges.South.length c_p0_edges_South)), (12, (flatA ⟨g1322, 1, none⟩ (x1917.toNat * 1)), (.int .i64 (A8_Int.get p1.South x1917)))] (fun fb => by kernel_rfl) rfl ⟨⟨h2098.1, h2098.2, rfl⟩, trivial⟩ rfl ?_
                obtain ⟨t2099, ht2100, hx2061⟩ := bind_some hx2061
                refine WL.call (some 50) 68 #[(.slice A_p0_edges_South p0.edges.South.length c_p0_edges_South), (.int .i64 x1917), (.int .i64 (A8_Int.get p1.South x1917))] (fun fb => by kernel_rfl) (fill_at_calls p0.edges.South x1917 (A8_Int.get p1.South x1917) A_p0_edges_South c_p0_edges_South t2099 _ (hS2096.rd 5) ht2100) (fun v w2101 hR2102 => ?_)
                obtain ⟨rfl, hk_⟩ := hR2102
                have hS2103 := hS2096.keepN hk_
                refine ⟨trivial, ?_⟩
                refine seg 17 [] [0, 2, 4, 7, 33, 34, 53] [(0, (.pointer (some ⟨g_p0, 0, none⟩))), (2, (.int .i64 p2)), (4, (.pointer (some ⟨g1322, 0, none⟩))), (7, (.int .i64 x1917)), (33, (.int .i64 p0.width)), (34, (.int .i64 x1917)), (53, (.bool (!t2099)))] [] (fun fb => by kernel_rfl) rfl trivial ?_
                obtain ⟨x2110, hx2111, hx2061⟩ := bind_some hx2061
                refine WL.cutW (T := Bool) 39 (fun t => [(0, (.pointer (some ⟨g_p0, 0, none⟩))), (2, (.int .i64 p2)), (4, (.pointer (some ⟨g1322, 0, none⟩))), (33, (.int .i64 p0.width)), (34, (.int .i64 x1917)), (75, (.bool t))]) (fun t w1 => (St NoS w w1 [blk g_p0 (.cells #[(.slice A_p0_rows p0.rows.length c_p0_rows), (.int .i64 p0.width), (.int .i64 p0.height), (.slice A_p0_edges_North p0.edges.North.length c_p0_edges_North), (.slice A_p0_edges_East p0.edges.East.length c_p0_edges_East), (.slice A_p0_edges_South p0.edges.South.length c_p0_edges_South), (.slice A_p0_edges_West p0.edges.West.length c_p0_edges_West)] 84 (0, 0)), rowR encN_Row A_p0_rows c_p0_rows (tag H_p0_rows p0.rows), nestO subN_Row H_p0_rows p0.rows, rowR encInt A_p0_edges_North c_p0_edges_North p0.edges.North, rowR encInt A_p0_edges_East c_p0_edges_East p0.edges.East, rowR encInt A_p0_edges_South c_p0_edges_South p0.edges.South, rowR encInt A_p0_edges_West c_p0_edges_West p0.edges.West, rowR encInt A_p1_Cells c_p1_Cells p1.Cells] [blk g1322 (.cells #[(.slice A_p1_Cells p1.Cells.length c_p1_Cells), (.int .i64 p1.South.e0), (.int .i64 p1.South.e1), (.int .i64 p1.South.e2), (.int .i64 p1.South.e3), (.int .i64 p1.South.e4), (.int .i64 p1.South.e5), (.int .i64 p1.South.e6), (.int .i64 p1.South.e7), (.int .i64 p1.North.e0), (.int .i64 p1.North.e1), (.int .i64 p1.North.e2), (.int .i64 p1.North.e3), (.int .i64 p1.North.e4), (.int .i64 p1.North.e5), (.int .i64 p1.North.e6), (.int .i64 p1.North.e7), (.int .i64 p1.West), (.int .i64 p1.East)] 88 (0, 0))] ∧ x2110 = t) ∧ CellsOK [] w1) (fun K => ?_) ?_
                ·
                  rcases br_some hx2111 with ⟨h2112, hx2111⟩ | ⟨h2112, hx2111⟩
                  ·
                    refine WL.setB 53 h2112 rfl ?_
                    refine seg 39 [] [0, 2, 4, 33, 34, 75] [(0, (.pointer (some ⟨g_p0, 0, none⟩))), (2, (.int .i64 p2)), (4, (.pointer (some ⟨g1322, 0, none⟩))), (33, (.int .i64 p0.width)), (34, (.int .i64 x1917)), (75, (.bool true))] [] (fun fb => by kernel_rfl) rfl trivial ?_
                    injection hx2111 with hx2111
                    exact WL.to K true [0, 2, 4, 33, 34, 75] rfl ⟨⟨(hS2103.subR [0, 1, 2, 3, 4, 5, 6, 7]).sub [0] (by decide), hx2111.symm⟩, trivial⟩
                  refine WL.setB 53 h2112 rfl ?_
                  refine seg 25 [.v (.int .i64 p0.height)] [0, 2, 4, 7, 33, 34, 53, 61] [(0, (.pointer (some ⟨g_p0, 0, none⟩))), (2, (.int .i64 p2)), (4, (.pointer (some ⟨g1322, 0, none⟩))), (7, (.int .i64 x1917)), (33, (.int .i64 p0.width)), (34, (.int .i64 x1917)), (53, (.bool false)), (61, (.bool (p2 == (w64 (p0.height - 1)))))] [.cell ⟨g_p0, 2, none⟩ (.int .i64 p0.height)] (fun fb => by kernel_rfl) rfl ⟨blk_cell (hS2103.rd 0).1 2 rfl, trivial⟩ ?_
                  refine WL.setB 61 h2069 rfl ?_
                  refine seg 35 [.v (.slice A_p0_edges_North p0.edges.North.length c_p0_edges_North), .v (.int .i64 (A8_Int.get p1.North x1917))] [0, 2, 4, 33, 34, 53, 61, 66, 67, 71] [(0, (.pointer (some ⟨g_p0, 0, none⟩))), (2, (.int .i64 p2)), (4, (.pointer (some ⟨g1322, 0, none⟩))), (33, (.int .i64 p0.width)), (34, (.int .i64 x1917)), (53, (.bool false)), (61, (.bool true)), (66, (.slice A_p0_edges_North p0.edges.North.length c_p0_edges_North)), (67, (.int .i64 x1917)), (71, (.int .i64 (A8_Int.get p1.North x1917)))] [.idx (some ⟨0, 0, none⟩) x1917 8, .cell ⟨g_p0, 3, none⟩ (.slice A_p0_edges_North p0.edges.North.length c_p0_edges_North), .cell (flatA ⟨g1322, 9, none⟩ (x1917.toNat * 1)) (.int .i64 (A8_Int.get p1.North x1917))] (fun fb => by kernel_rfl) rfl ⟨⟨h2098.1, h2098.2, rfl⟩, blk_cell (hS2103.rd 0).1 3 rfl, hS2103.cell 0 rfl _ (cases8 (Q := fun z_ => (#[(.slice A_p1_Cells p1.Cells.length c_p1_Cells), (.int .i64 p1.South.e0), (.int .i64 p1.South.e1), (.int .i64 p1.South.e2), (.int .i64 p1.South.e3), (.int .i64 p1.South.e4), (.int .i64 p1.South.e5), (.int .i64 p1.South.e6), (.int .i64 p1.South.e7), (.int .i64 p1.North.e0), (.int .i64 p1.North.e1), (.int .i64 p1.North.e2), (.int .i64 p1.North.e3), (.int .i64 p1.North.e4), (.int .i64 p1.North.e5), (.int .i64 p1.North.e6), (.int .i64 p1.North.e7), (.int .i64 p1.West), (.int .i64 p1.East)] : Array Value)[9 + z_.toNat * 1]? = some (.int .i64 (A8_Int.get p1.North z_))) h2098 (by kernel_rfl) (by kernel_rfl) (by kernel_rfl) (by kernel_rfl) (by kernel_rfl) (by kernel_rfl) (by kernel_rfl) (by kernel_rfl)), trivial⟩ ?_
                  obtain ⟨t2113, ht2114, hx2111⟩ := bind_some hx2111
                  refine WL.call (some 72) 68 #[(.slice A_p0_edges_North p0.edges.North.length c_p0_edges_North), (.int .i64 x1917), (.int .i64 (A8_Int.get p1.North x1917))] (fun fb => by kernel_rfl) (fill_at_calls p0.edges.North x1917 (A8_Int.get p1.North x1917) A_p0_edges_North c_p0_edges_North t2113 _ (hS2103.rd 3) ht2114) (fun v w2115 hR2116 => ?_)
                  obtain ⟨rfl, hk_⟩ := hR2116
                  have hS2117 := hS2103.keepN hk_
                  refine ⟨trivial, ?_⟩
                  refine seg 39 [] [0, 2, 4, 33, 34, 75] [(0, (.pointer (some ⟨g_p0, 0, none⟩))), (2, (.int .i64 p2)), (4, (.pointer (some ⟨g1322, 0, none⟩))), (33, (.int .i64 p0.width)), (34, (.int .i64 x1917)), (75, (.bool (!t2113)))] [] (fun fb => by kernel_rfl) rfl trivial ?_
                  injection hx2111 with hx2111
                  exact WL.to K (!t2113) [0, 2, 4, 33, 34, 75] rfl ⟨⟨(hS2117.subR [0, 1, 2, 3, 4, 5, 6, 7]).sub [0] (by decide), hx2111.symm⟩, trivial⟩
                rintro y2118 w2120 ⟨⟨hS2121, hq2119⟩, hF2122⟩
                subst hq2119
                refine WL.done rfl ?_
                injection hx2061 with hx2061
                exact WX.to Kx2060 x2110 [0, 2, 4, 33, 34, 75] rfl ⟨(hS2121.subR [0, 1, 2, 3, 4, 5, 6, 7]).sub [0] (by decide), hx2061.symm⟩
              refine seg 3 [] [0, 2, 4, 7, 33, 34, 39] [(0, (.pointer (some ⟨g_p0, 0, none⟩))), (2, (.int .i64 p2)), (4, (.pointer (some ⟨g1322, 0, none⟩))), (7, (.int .i64 x1917)), (33, (.int .i64 p0.width)), (34, (.int .i64 x1917)), (39, (.bool (p2 == 0)))] [] (fun fb => by kernel_rfl) rfl trivial ?_
              refine WL.setB 39 h2062 rfl ?_
              refine segF 13 [.v (.slice A_p0_edges_South p0.edges.South.length c_p0_edges_South), .v (.int .i64 (A8_Int.get p1.South x1917))] [0, 2, 4, 7, 33, 34, 39, 44, 45, 49] [(0, (.pointer (some ⟨g_p0, 0, none⟩))), (2, (.int .i64 p2)), (4, (.pointer (some ⟨g1322, 0, none⟩))), (7, (.int .i64 x1917)), (33, (.int .i64 p0.width)), (34, (.int .i64 x1917)), (39, (.bool true)), (44, (.slice A_p0_edges_South p0.edges.South.length c_p0_edges_South)), (45, (.int .i64 x1917)), (49, (.int .i64 (A8_Int.get p1.South x1917)))] [.idx (some ⟨0, 0, none⟩) x1917 8] [0, 1] [(7, ⟨g_p0, 5, none⟩, (.slice A_p0_edges_South p0.edges.South.length c_p0_edges_South)), (12, (flatA ⟨g1322, 1, none⟩ (x1917.toNat * 1)), (.int .i64 (A8_Int.get p1.South x1917)))] (fun fb => by kernel_rfl) rfl ⟨⟨h2098.1, h2098.2, rfl⟩, trivial⟩ rfl ?_
              obtain ⟨t2123, ht2124, hx2061⟩ := bind_some hx2061
              refine WL.call (some 50) 68 #[(.slice A_p0_edges_South p0.edges.South.length c_p0_edges_South), (.int .i64 x1917), (.int .i64 (A8_Int.get p1.South x1917))] (fun fb => by kernel_rfl) (fill_at_calls p0.edges.South x1917 (A8_Int.get p1.South x1917) A_p0_edges_South c_p0_edges_South t2123 _ (hS2096.rd 5) ht2124) (fun v w2125 hR2126 => ?_)
              obtain ⟨rfl, hk_⟩ := hR2126
              have hS2127 := hS2096.keepN hk_
              refine ⟨trivial, ?_⟩
              refine seg 17 [] [0, 2, 4, 7, 33, 34, 53] [(0, (.pointer (some ⟨g_p0, 0, none⟩))), (2, (.int .i64 p2)), (4, (.pointer (some ⟨g1322, 0, none⟩))), (7, (.int .i64 x1917)), (33, (.int .i64 p0.width)), (34, (.int .i64 x1917)), (53, (.bool (!t2123)))] [] (fun fb => by kernel_rfl) rfl trivial ?_
              obtain ⟨x2134, hx2135, hx2061⟩ := bind_some hx2061
              refine WL.cutW (T := Bool) 39 (fun t => [(0, (.pointer (some ⟨g_p0, 0, none⟩))), (2, (.int .i64 p2)), (4, (.pointer (some ⟨g1322, 0, none⟩))), (33, (.int .i64 p0.width)), (34, (.int .i64 x1917)), (75, (.bool t))]) (fun t w1 => (St NoS w w1 [blk g_p0 (.cells #[(.slice A_p0_rows p0.rows.length c_p0_rows), (.int .i64 p0.width), (.int .i64 p0.height), (.slice A_p0_edges_North p0.edges.North.length c_p0_edges_North), (.slice A_p0_edges_East p0.edges.East.length c_p0_edges_East), (.slice A_p0_edges_South p0.edges.South.length c_p0_edges_South), (.slice A_p0_edges_West p0.edges.West.length c_p0_edges_West)] 84 (0, 0)), rowR encN_Row A_p0_rows c_p0_rows (tag H_p0_rows p0.rows), nestO subN_Row H_p0_rows p0.rows, rowR encInt A_p0_edges_North c_p0_edges_North p0.edges.North, rowR encInt A_p0_edges_East c_p0_edges_East p0.edges.East, rowR encInt A_p0_edges_South c_p0_edges_South p0.edges.South, rowR encInt A_p0_edges_West c_p0_edges_West p0.edges.West, rowR encInt A_p1_Cells c_p1_Cells p1.Cells] [blk g1322 (.cells #[(.slice A_p1_Cells p1.Cells.length c_p1_Cells), (.int .i64 p1.South.e0), (.int .i64 p1.South.e1), (.int .i64 p1.South.e2), (.int .i64 p1.South.e3), (.int .i64 p1.South.e4), (.int .i64 p1.South.e5), (.int .i64 p1.South.e6), (.int .i64 p1.South.e7), (.int .i64 p1.North.e0), (.int .i64 p1.North.e1), (.int .i64 p1.North.e2), (.int .i64 p1.North.e3), (.int .i64 p1.North.e4), (.int .i64 p1.North.e5), (.int .i64 p1.North.e6), (.int .i64 p1.North.e7), (.int .i64 p1.West), (.int .i64 p1.East)] 88 (0, 0))] ∧ x2134 = t) ∧ CellsOK [] w1) (fun K => ?_) ?_
              ·
                rcases br_some hx2135 with ⟨h2136, hx2135⟩ | ⟨h2136, hx2135⟩
                ·
                  refine WL.setB 53 h2136 rfl ?_
                  refine seg 39 [] [0, 2, 4, 33, 34, 75] [(0, (.pointer (some ⟨g_p0, 0, none⟩))), (2, (.int .i64 p2)), (4, (.pointer (some ⟨g1322, 0, none⟩))), (33, (.int .i64 p0.width)), (34, (.int .i64 x1917)), (75, (.bool true))] [] (fun fb => by kernel_rfl) rfl trivial ?_
                  injection hx2135 with hx2135
                  exact WL.to K true [0, 2, 4, 33, 34, 75] rfl ⟨⟨(hS2127.subR [0, 1, 2, 3, 4, 5, 6, 7]).sub [0] (by decide), hx2135.symm⟩, trivial⟩
                refine WL.setB 53 h2136 rfl ?_
                refine seg 25 [.v (.int .i64 p0.height)] [0, 2, 4, 7, 33, 34, 53, 61] [(0, (.pointer (some ⟨g_p0, 0, none⟩))), (2, (.int .i64 p2)), (4, (.pointer (some ⟨g1322, 0, none⟩))), (7, (.int .i64 x1917)), (33, (.int .i64 p0.width)), (34, (.int .i64 x1917)), (53, (.bool false)), (61, (.bool (p2 == (w64 (p0.height - 1)))))] [.cell ⟨g_p0, 2, none⟩ (.int .i64 p0.height)] (fun fb => by kernel_rfl) rfl ⟨blk_cell (hS2127.rd 0).1 2 rfl, trivial⟩ ?_
                refine WL.setB 61 h2069 rfl ?_
                refine seg 35 [.v (.int .i64 (A8_Int.get p1.North x1917)), .v (.slice A_p0_edges_North p0.edges.North.length c_p0_edges_North)] [0, 2, 4, 33, 34, 53, 61, 66, 67, 71] [(0, (.pointer (some ⟨g_p0, 0, none⟩))), (2, (.int .i64 p2)), (4, (.pointer (some ⟨g1322, 0, none⟩))), (33, (.int .i64 p0.width)), (34, (.int .i64 x1917)), (53, (.bool false)), (61, (.bool true)), (66, (.slice A_p0_edges_North p0.edges.North.length c_p0_edges_North)), (67, (.int .i64 x1917)), (71, (.int .i64 (A8_Int.get p1.North x1917)))] [.idx (some ⟨0, 0, none⟩) x1917 8, .cell (flatA ⟨g1322, 9, none⟩ (x1917.toNat * 1)) (.int .i64 (A8_Int.get p1.North x1917)), .cell ⟨g_p0, 3, none⟩ (.slice A_p0_edges_North p0.edges.North.length c_p0_edges_North)] (fun fb => by kernel_rfl) rfl ⟨⟨h2098.1, h2098.2, rfl⟩, hS2127.cell 0 rfl _ (cases8 (Q := fun z_ => (#[(.slice A_p1_Cells p1.Cells.length c_p1_Cells), (.int .i64 p1.South.e0), (.int .i64 p1.South.e1), (.int .i64 p1.South.e2), (.int .i64 p1.South.e3), (.int .i64 p1.South.e4), (.int .i64 p1.South.e5), (.int .i64 p1.South.e6), (.int .i64 p1.South.e7), (.int .i64 p1.North.e0), (.int .i64 p1.North.e1), (.int .i64 p1.North.e2), (.int .i64 p1.North.e3), (.int .i64 p1.North.e4), (.int .i64 p1.North.e5), (.int .i64 p1.North.e6), (.int .i64 p1.North.e7), (.int .i64 p1.West), (.int .i64 p1.East)] : Array Value)[9 + z_.toNat * 1]? = some (.int .i64 (A8_Int.get p1.North z_))) h2098 (by kernel_rfl) (by kernel_rfl) (by kernel_rfl) (by kernel_rfl) (by kernel_rfl) (by kernel_rfl) (by kernel_rfl) (by kernel_rfl)), blk_cell (hS2127.rd 0).1 3 rfl, trivial⟩ ?_
                obtain ⟨t2137, ht2138, hx2135⟩ := bind_some hx2135
                refine WL.call (some 72) 68 #[(.slice A_p0_edges_North p0.edges.North.length c_p0_edges_North), (.int .i64 x1917), (.int .i64 (A8_Int.get p1.North x1917))] (fun fb => by kernel_rfl) (fill_at_calls p0.edges.North x1917 (A8_Int.get p1.North x1917) A_p0_edges_North c_p0_edges_North t2137 _ (hS2127.rd 3) ht2138) (fun v w2139 hR2140 => ?_)
                obtain ⟨rfl, hk_⟩ := hR2140
                have hS2141 := hS2127.keepN hk_
                refine ⟨trivial, ?_⟩
                refine seg 39 [] [0, 2, 4, 33, 34, 75] [(0, (.pointer (some ⟨g_p0, 0, none⟩))), (2, (.int .i64 p2)), (4, (.pointer (some ⟨g1322, 0, none⟩))), (33, (.int .i64 p0.width)), (34, (.int .i64 x1917)), (75, (.bool (!t2137)))] [] (fun fb => by kernel_rfl) rfl trivial ?_
                injection hx2135 with hx2135
                exact WL.to K (!t2137) [0, 2, 4, 33, 34, 75] rfl ⟨⟨(hS2141.subR [0, 1, 2, 3, 4, 5, 6, 7]).sub [0] (by decide), hx2135.symm⟩, trivial⟩
              rintro y2142 w2144 ⟨⟨hS2145, hq2143⟩, hF2146⟩
              subst hq2143
              refine WL.done rfl ?_
              injection hx2061 with hx2061
              exact WX.to Kx2060 x2134 [0, 2, 4, 33, 34, 75] rfl ⟨(hS2145.subR [0, 1, 2, 3, 4, 5, 6, 7]).sub [0] (by decide), hx2061.symm⟩
            obtain ⟨h2158, hx2061⟩ := as_some hx2061
            refine WC.regionD ([(7, ⟨g_p0, 5, none⟩, (.slice A_p0_edges_South p0.edges.South.length c_p0_edges_South)), (12, (flatA ⟨g1322, 1, none⟩ (x1917.toNat * 1)), (.int .i64 (A8_Int.get p1.South x1917)))], [0, 1, 2, 3, 4, 5, 6, 7, 8, 9, 10, 11, 12, 14, 15, 16, 17, 18, 19, 20, 22, 23, 24, 25, 26, 27, 28, 30, 31, 32, 33, 36, 37, 38], [[], [0], [0, 1], [0, 1, 2], [0, 1, 2, 3], [0, 1, 2, 3, 4], [0, 1, 2, 3, 4, 5], [0, 1, 2, 3, 4, 5, 6], [0, 1, 2], [0, 1, 2], [0, 1, 2], [0, 1, 2, 9, 10], [0, 1, 2, 9, 10, 11], [0, 1, 2, 3, 4, 5, 6, 7, 8, 9, 10, 11, 12], [0, 1, 2, 3, 4, 5, 6, 7, 8, 9, 10, 11, 12, 13], [0, 1, 2, 3, 4, 5, 6, 7, 8, 9, 10, 11, 12, 13, 14], [0, 1, 2, 3, 4, 5, 6, 7, 8, 9, 10, 11, 12, 13, 14, 15], [0, 1, 2, 3, 4, 5, 6, 7, 8, 9, 10, 11, 12, 13, 14, 15, 16], [0, 1, 2, 3, 4, 5, 6, 7, 8, 9, 10, 11, 12, 13, 14, 15, 16], [0, 1, 2, 3, 4, 5, 6, 7, 8, 9, 10, 11, 12, 13, 14, 15, 16, 18], [0, 1, 2, 3, 4, 5, 6, 7, 8, 9, 10, 11, 12, 13, 14, 15, 16, 18, 19], [0, 1, 2, 3, 4, 5, 6, 7, 8, 9, 10, 11, 12, 13, 14, 15, 16, 18, 19, 20], [0, 1, 2, 3, 4, 5, 6, 7, 8, 9, 10, 11, 12, 13, 14, 15, 16, 18, 19, 20, 21], [0, 1, 2, 3, 4, 5, 6, 7, 8, 9, 10, 11, 12, 13, 14, 15, 16, 17, 18, 19, 20, 21, 22], [0, 1, 2, 3, 4, 5, 6, 7, 8, 9, 10, 11, 12, 13, 14, 15, 16, 17, 18, 19, 20, 21, 22, 23], [0, 1, 2, 3, 4, 5, 6, 7, 8, 9, 10, 11, 12, 13, 14, 15, 16, 17, 18, 19, 20, 21, 22, 23, 24], [0, 1, 2, 3, 4, 5, 6, 7, 8, 9, 10, 11, 12, 13, 14, 15, 16, 17, 18, 19, 20, 21, 22, 23, 24, 25], [0, 1, 2, 3, 4, 5, 6, 7, 8, 9, 10, 11, 12, 13, 14, 15, 16, 17, 18, 19, 20, 21, 22, 23, 24, 25, 26], [0, 1, 2, 3, 4, 5, 6, 7, 8, 9, 10, 11, 12, 13, 14, 15, 16, 17, 18, 19, 20, 21, 22, 23, 24, 25, 26, 27], [0, 1, 2, 3, 4, 5, 6, 7, 8, 9, 10, 11, 12, 13, 14, 15, 16, 17, 18, 19, 20, 21, 22, 23, 24, 25, 26, 27, 28], [0, 1, 2, 3, 4, 5, 6, 7, 8, 9, 10, 11, 12, 13, 14, 15, 16, 17, 18, 19, 20, 21, 22, 23, 24], [0, 1, 2, 3, 4, 5, 6, 7, 8, 9, 10, 11, 12, 13, 14, 15, 16, 17, 18, 19, 20, 21, 22, 23, 24], [0, 1, 2, 3, 4, 5, 6, 7, 8, 9, 10, 11, 12, 13, 14, 15, 16, 17, 18, 19, 20, 21, 22, 23, 24], [0, 1, 2, 3, 4, 5, 6, 7, 8, 9, 10, 11, 12, 13, 14, 15, 16, 17, 18, 19, 20, 21, 22, 23, 24, 31, 32], [0, 1, 2, 3, 4, 5, 6, 7, 8, 9, 10, 11, 12, 13, 14, 15, 16, 17, 18, 19, 20, 21, 22, 23, 24, 31, 32, 33], [0, 1, 2, 3, 4, 5, 6, 7, 8, 9, 10, 11, 12, 13, 14, 15, 16, 17, 18, 19, 20, 21, 22, 23, 24, 25, 26, 27, 28, 29, 30, 31, 32, 33, 34], [0, 1, 2, 3, 4, 5, 6, 7, 8, 9, 10, 11, 12, 13, 14, 15, 16, 17, 18, 19, 20, 21, 22, 23, 24, 25, 26, 27, 28, 29, 30, 31, 32, 33, 34, 35], [0, 1, 2, 3, 4, 5, 6, 7, 8, 9, 10, 11, 12, 13, 14, 15, 16, 17, 18, 19, 20, 21, 22, 23, 24, 25, 26, 27, 28, 29, 30, 31, 32, 33, 34, 35, 36], [0, 1, 2, 3, 4, 5, 6, 7, 8, 9, 10, 11, 12, 13, 14, 15, 16, 17, 18, 19, 20, 21, 22, 23, 24, 25, 26, 27, 28, 29, 30, 31, 32, 33, 34, 35, 36, 37]]) [[0, 1, 2, 3, 4, 5, 6, 7, 8, 9, 10, 11, 12, 13, 14, 15, 16, 17, 18, 19, 20, 21, 22, 23, 24, 25, 26, 27, 28, 30, 31, 32, 33, 29, 34, 35, 36, 37, 38], [0, 1, 2, 3, 4, 5, 6, 7, 8, 9, 10, 11, 12, 13, 14, 15, 16, 17, 18, 19, 20, 21, 22, 23, 24, 25, 26, 27, 28, 30, 31, 32, 33, 34, 29, 35, 36, 37, 38]] (by kernel_rfl) (by kernel_rfl) (NoPanic.seq (NoPanic.block (NoPanic.seq (NoPanic.seq (NoPanic.block (NoPanic.seq (NoPanic.body))))))) ?_
            have hS2156 := hS1922.drew
            revert hS2156
            generalize World.drew w1921 = w2155
            intro hS2156
            refine ⟨⟨blk_cell (hS2156.rd 0).1 5 rfl, hS2156.cell 0 rfl _ (cases8 (Q := fun z_ => (#[(.slice A_p1_Cells p1.Cells.length c_p1_Cells), (.int .i64 p1.South.e0), (.int .i64 p1.South.e1), (.int .i64 p1.South.e2), (.int .i64 p1.South.e3), (.int .i64 p1.South.e4), (.int .i64 p1.South.e5), (.int .i64 p1.South.e6), (.int .i64 p1.South.e7), (.int .i64 p1.North.e0), (.int .i64 p1.North.e1), (.int .i64 p1.North.e2), (.int .i64 p1.North.e3), (.int .i64 p1.North.e4), (.int .i64 p1.North.e5), (.int .i64 p1.North.e6), (.int .i64 p1.North.e7), (.int .i64 p1.West), (.int .i64 p1.East)] : Array Value)[1 + z_.toNat * 1]? = some (.int .i64 (A8_Int.get p1.South z_))) h2158 (by kernel_rfl) (by kernel_rfl) (by kernel_rfl) (by kernel_rfl) (by kernel_rfl) (by kernel_rfl) (by kernel_rfl) (by kernel_rfl)), trivial⟩, forallC ?_ (forallC ?_ (forallN))⟩
            ·
              refine seg 3 [] [0, 2, 4, 7, 33, 34, 39] [(0, (.pointer (some ⟨g_p0, 0, none⟩))), (2, (.int .i64 p2)), (4, (.pointer (some ⟨g1322, 0, none⟩))), (7, (.int .i64 x1917)), (33, (.int .i64 p0.width)), (34, (.int .i64 x1917)), (39, (.bool (p2 == 0)))] [] (fun fb => by kernel_rfl) rfl trivial ?_
              refine WL.setB 39 h2062 rfl ?_
              refine segF 13 [.v (.slice A_p0_edges_South p0.edges.South.length c_p0_edges_South), .v (.int .i64 (A8_Int.get p1.South x1917))] [0, 2, 4, 7, 33, 34, 39, 44, 45, 49] [(0, (.pointer (some ⟨g_p0, 0, none⟩))), (2, (.int .i64 p2)), (4, (.pointer (some ⟨g1322, 0, none⟩))), (7, (.int .i64 x1917)), (33, (.int .i64 p0.width)), (34, (.int .i64 x1917)), (39, (.bool true)), (44, (.slice A_p0_edges_South p0.edges.South.length c_p0_edges_South)), (45, (.int .i64 x1917)), (49, (.int .i64 (A8_Int.get p1.South x1917)))] [.idx (some ⟨0, 0, none⟩) x1917 8] [0, 1] [(7, ⟨g_p0, 5, none⟩, (.slice A_p0_edges_South p0.edges.South.length c_p0_edges_South)), (12, (flatA ⟨g1322, 1, none⟩ (x1917.toNat * 1)), (.int .i64 (A8_Int.get p1.South x1917)))] (fun fb => by kernel_rfl) rfl ⟨⟨h2158.1, h2158.2, rfl⟩, trivial⟩ rfl ?_
              obtain ⟨t2159, ht2160, hx2061⟩ := bind_some hx2061
              refine WL.call (some 50) 68 #[(.slice A_p0_edges_South p0.edges.South.length c_p0_edges_South), (.int .i64 x1917), (.int .i64 (A8_Int.get p1.South x1917))] (fun fb => by kernel_rfl) (fill_at_calls p0.edges.South x1917 (A8_Int.get p1.South x1917) A_p0_edges_South c_p0_edges_South t2159 _ (hS2156.rd 5) ht2160) (fun v w2161 hR2162 => ?_)
              obtain ⟨rfl, hk_⟩ := hR2162
              have hS2163 := hS2156.keepN hk_
              refine ⟨trivial, ?_⟩
              refine seg 17 [] [0, 2, 4, 7, 33, 34, 53] [(0, (.pointer (some ⟨g_p0, 0, none⟩))), (2, (.int .i64 p2)), (4, (.pointer (some ⟨g1322, 0, none⟩))), (7, (.int .i64 x1917)), (33, (.int .i64 p0.width)), (34, (.int .i64 x1917)), (53, (.bool (!t2159)))] [] (fun fb => by kernel_rfl) rfl trivial ?_
              refine WL.cutV (T := Bool) 39 (fun t => [(75, (.bool t)), (0, (.pointer (some ⟨g_p0, 0, none⟩))), (2, (.int .i64 p2)), (4, (.pointer (some ⟨g1322, 0, none⟩))), (33, (.int .i64 p0.width)), (34, (.int .i64 x1917))]) (fun t => (!t2159) = t) (fun K => ?_) ?_
              ·
                rcases Bool.eq_false_or_eq_true (!t2159) with h2164 | h2164
                ·
                  refine WL.setB 53 h2164 rfl ?_
                  refine seg 39 [] [0, 2, 4, 33, 34, 75] [(0, (.pointer (some ⟨g_p0, 0, none⟩))), (2, (.int .i64 p2)), (4, (.pointer (some ⟨g1322, 0, none⟩))), (33, (.int .i64 p0.width)), (34, (.int .i64 x1917)), (75, (.bool true))] [] (fun fb => by kernel_rfl) rfl trivial ?_
                  exact WL.toV K true [75, 0, 2, 4, 33, 34] rfl (by first | (rw [h2164]; done) | (rw [h2164]; rfl))
                refine WL.setB 53 h2164 rfl ?_
                refine seg 25 [.v (.int .i64 p0.height)] [0, 2, 4, 7, 33, 34, 53, 61] [(0, (.pointer (some ⟨g_p0, 0, none⟩))), (2, (.int .i64 p2)), (4, (.pointer (some ⟨g1322, 0, none⟩))), (7, (.int .i64 x1917)), (33, (.int .i64 p0.width)), (34, (.int .i64 x1917)), (53, (.bool false)), (61, (.bool (p2 == (w64 (p0.height - 1)))))] [.cell ⟨g_p0, 2, none⟩ (.int .i64 p0.height)] (fun fb => by kernel_rfl) rfl ⟨blk_cell (hS2163.rd 0).1 2 rfl, trivial⟩ ?_
                refine WL.setB 61 h2069 rfl ?_
                refine seg 39 [] [0, 2, 4, 33, 34, 75] [(0, (.pointer (some ⟨g_p0, 0, none⟩))), (2, (.int .i64 p2)), (4, (.pointer (some ⟨g1322, 0, none⟩))), (33, (.int .i64 p0.width)), (34, (.int .i64 x1917)), (75, (.bool false))] [] (fun fb => by kernel_rfl) rfl trivial ?_
                exact WL.toV K false [75, 0, 2, 4, 33, 34] rfl (by first | (rw [h2164]; done) | (rw [h2164]; rfl))
              rintro b2165 rfl
              refine WL.done rfl ?_
              injection hx2061 with hx2061
              exact WX.to Kx2060 (!t2159) [0, 2, 4, 33, 34, 75] rfl ⟨(hS2163.subR [0, 1, 2, 3, 4, 5, 6, 7]).sub [0] (by decide), hx2061.symm⟩
            refine seg 3 [] [0, 2, 4, 7, 33, 34, 39] [(0, (.pointer (some ⟨g_p0, 0, none⟩))), (2, (.int .i64 p2)), (4, (.pointer (some ⟨g1322, 0, none⟩))), (7, (.int .i64 x1917)), (33, (.int .i64 p0.width)), (34, (.int .i64 x1917)), (39, (.bool (p2 == 0)))] [] (fun fb => by kernel_rfl) rfl trivial ?_
            refine WL.setB 39 h2062 rfl ?_
            refine segF 13 [.v (.slice A_p0_edges_South p0.edges.South.length c_p0_edges_South), .v (.int .i64 (A8_Int.get p1.South x1917))] [0, 2, 4, 7, 33, 34, 39, 44, 45, 49] [(0, (.pointer (some ⟨g_p0, 0, none⟩))), (2, (.int .i64 p2)), (4, (.pointer (some ⟨g1322, 0, none⟩))), (7, (.int .i64 x1917)), (33, (.int .i64 p0.width)), (34, (.int .i64 x1917)), (39, (.bool true)), (44, (.slice A_p0_edges_South p0.edges.South.length c_p0_edges_South)), (45, (.int .i64 x1917)), (49, (.int .i64 (A8_Int.get p1.South x1917)))] [.idx (some ⟨0, 0, none⟩) x1917 8] [0, 1] [(7, ⟨g_p0, 5, none⟩, (.slice A_p0_edges_South p0.edges.South.length c_p0_edges_South)), (12, (flatA ⟨g1322, 1, none⟩ (x1917.toNat * 1)), (.int .i64 (A8_Int.get p1.South x1917)))] (fun fb => by kernel_rfl) rfl ⟨⟨h2158.1, h2158.2, rfl⟩, trivial⟩ rfl ?_
            obtain ⟨t2166, ht2167, hx2061⟩ := bind_some hx2061
            refine WL.call (some 50) 68 #[(.slice A_p0_edges_South p0.edges.South.length c_p0_edges_South), (.int .i64 x1917), (.int .i64 (A8_Int.get p1.South x1917))] (fun fb => by kernel_rfl) (fill_at_calls p0.edges.South x1917 (A8_Int.get p1.South x1917) A_p0_edges_South c_p0_edges_South t2166 _ (hS2156.rd 5) ht2167) (fun v w2168 hR2169 => ?_)
            obtain ⟨rfl, hk_⟩ := hR2169
            have hS2170 := hS2156.keepN hk_
            refine ⟨trivial, ?_⟩
            refine seg 17 [] [0, 2, 4, 7, 33, 34, 53] [(0, (.pointer (some ⟨g_p0, 0, none⟩))), (2, (.int .i64 p2)), (4, (.pointer (some ⟨g1322, 0, none⟩))), (7, (.int .i64 x1917)), (33, (.int .i64 p0.width)), (34, (.int .i64 x1917)), (53, (.bool (!t2166)))] [] (fun fb => by kernel_rfl) rfl trivial ?_
            refine WL.cutV (T := Bool) 39 (fun t => [(75, (.bool t)), (0, (.pointer (some ⟨g_p0, 0, none⟩))), (2, (.int .i64 p2)), (4, (.pointer (some ⟨g1322, 0, none⟩))), (33, (.int .i64 p0.width)), (34, (.int .i64 x1917))]) (fun t => (!t2166) = t) (fun K => ?_) ?_
            ·
              rcases Bool.eq_false_or_eq_true (!t2166) with h2171 | h2171
              ·
                refine WL.setB 53 h2171 rfl ?_
                refine seg 39 [] [0, 2, 4, 33, 34, 75] [(0, (.pointer (some ⟨g_p0, 0, none⟩))), (2, (.int .i64 p2)), (4, (.pointer (some ⟨g1322, 0, none⟩))), (33, (.int .i64 p0.width)), (34, (.int .i64 x1917)), (75, (.bool true))] [] (fun fb => by kernel_rfl) rfl trivial ?_
                exact WL.toV K true [75, 0, 2, 4, 33, 34] rfl (by first | (rw [h2171]; done) | (rw [h2171]; rfl))
              refine WL.setB 53 h2171 rfl ?_
              refine seg 25 [.v (.int .i64 p0.height)] [0, 2, 4, 7, 33, 34, 53, 61] [(0, (.pointer (some ⟨g_p0, 0, none⟩))), (2, (.int .i64 p2)), (4, (.pointer (some ⟨g1322, 0, none⟩))), (7, (.int .i64 x1917)), (33, (.int .i64 p0.width)), (34, (.int .i64 x1917)), (53, (.bool false)), (61, (.bool (p2 == (w64 (p0.height - 1)))))] [.cell ⟨g_p0, 2, none⟩ (.int .i64 p0.height)] (fun fb => by kernel_rfl) rfl ⟨blk_cell (hS2170.rd 0).1 2 rfl, trivial⟩ ?_
              refine WL.setB 61 h2069 rfl ?_
              refine seg 39 [] [0, 2, 4, 33, 34, 75] [(0, (.pointer (some ⟨g_p0, 0, none⟩))), (2, (.int .i64 p2)), (4, (.pointer (some ⟨g1322, 0, none⟩))), (33, (.int .i64 p0.width)), (34, (.int .i64 x1917)), (75, (.bool false))] [] (fun fb => by kernel_rfl) rfl trivial ?_
              exact WL.toV K false [75, 0, 2, 4, 33, 34] rfl (by first | (rw [h2171]; done) | (rw [h2171]; rfl))
            rintro b2172 rfl
            refine WL.done rfl ?_
            injection hx2061 with hx2061
            exact WX.to Kx2060 (!t2166) [0, 2, 4, 33, 34, 75] rfl ⟨(hS2170.subR [0, 1, 2, 3, 4, 5, 6, 7]).sub [0] (by decide), hx2061.symm⟩
          rcases br_some hx2061 with ⟨h2173, hx2061⟩ | ⟨h2173, hx2061⟩
          ·
            refine WC.regionD ([], [0, 1, 2, 3, 4, 5, 6, 7, 8, 9, 10, 11, 12, 14, 15, 16, 17, 18, 19, 20, 22, 23, 24, 25, 26, 27, 28, 30, 31, 32, 33, 36, 37, 38], [[], [0], [0, 1], [0, 1, 2], [0, 1, 2, 3], [0, 1, 2, 3, 4], [0, 1, 2, 3, 4, 5], [0, 1, 2, 3, 4, 5, 6], [0, 1, 2], [0, 1, 2], [0, 1, 2], [0, 1, 2, 9, 10], [0, 1, 2, 9, 10, 11], [0, 1, 2, 3, 4, 5, 6, 7, 8, 9, 10, 11, 12], [0, 1, 2, 3, 4, 5, 6, 7, 8, 9, 10, 11, 12, 13], [0, 1, 2, 3, 4, 5, 6, 7, 8, 9, 10, 11, 12, 13, 14], [0, 1, 2, 3, 4, 5, 6, 7, 8, 9, 10, 11, 12, 13, 14, 15], [0, 1, 2, 3, 4, 5, 6, 7, 8, 9, 10, 11, 12, 13, 14, 15, 16], [0, 1, 2, 3, 4, 5, 6, 7, 8, 9, 10, 11, 12, 13, 14, 15, 16], [0, 1, 2, 3, 4, 5, 6, 7, 8, 9, 10, 11, 12, 13, 14, 15, 16, 18], [0, 1, 2, 3, 4, 5, 6, 7, 8, 9, 10, 11, 12, 13, 14, 15, 16, 18, 19], [0, 1, 2, 3, 4, 5, 6, 7, 8, 9, 10, 11, 12, 13, 14, 15, 16, 18, 19, 20], [0, 1, 2, 3, 4, 5, 6, 7, 8, 9, 10, 11, 12, 13, 14, 15, 16, 18, 19, 20, 21], [0, 1, 2, 3, 4, 5, 6, 7, 8, 9, 10, 11, 12, 13, 14, 15, 16, 17, 18, 19, 20, 21, 22], [0, 1, 2, 3, 4, 5, 6, 7, 8, 9, 10, 11, 12, 13, 14, 15, 16, 17, 18, 19, 20, 21, 22, 23], [0, 1, 2, 3, 4, 5, 6, 7, 8, 9, 10, 11, 12, 13, 14, 15, 16, 17, 18, 19, 20, 21, 22, 23, 24], [0, 1, 2, 3, 4, 5, 6, 7, 8, 9, 10, 11, 12, 13, 14, 15, 16, 17, 18, 19, 20, 21, 22, 23, 24, 25], [0, 1, 2, 3, 4, 5, 6, 7, 8, 9, 10, 11, 12, 13, 14, 15, 16, 17, 18, 19, 20, 21, 22, 23, 24, 25, 26], [0, 1, 2, 3, 4, 5, 6, 7, 8, 9, 10, 11, 12, 13, 14, 15, 16, 17, 18, 19, 20, 21, 22, 23, 24, 25, 26, 27], [0, 1, 2, 3, 4, 5, 6, 7, 8, 9, 10, 11, 12, 13, 14, 15, 16, 17, 18, 19, 20, 21, 22, 23, 24, 25, 26, 27, 28], [0, 1, 2, 3, 4, 5, 6, 7, 8, 9, 10, 11, 12, 13, 14, 15, 16, 17, 18, 19, 20, 21, 22, 23, 24], [0, 1, 2, 3, 4, 5, 6, 7, 8, 9, 10, 11, 12, 13, 14, 15, 16, 17, 18, 19, 20, 21, 22, 23, 24], [0, 1, 2, 3, 4, 5, 6, 7, 8, 9, 10, 11, 12, 13, 14, 15, 16, 17, 18, 19, 20, 21, 22, 23, 24], [0, 1, 2, 3, 4, 5, 6, 7, 8, 9, 10, 11, 12, 13, 14, 15, 16, 17, 18, 19, 20, 21, 22, 23, 24, 31, 32], [0, 1, 2, 3, 4, 5, 6, 7, 8, 9, 10, 11, 12, 13, 14, 15, 16, 17, 18, 19, 20, 21, 22, 23, 24, 31, 32, 33], [0, 1, 2, 3, 4, 5, 6, 7, 8, 9, 10, 11, 12, 13, 14, 15, 16, 17, 18, 19, 20, 21, 22, 23, 24, 25, 26, 27, 28, 29, 30, 31, 32, 33, 34], [0, 1, 2, 3, 4, 5, 6, 7, 8, 9, 10, 11, 12, 13, 14, 15, 16, 17, 18, 19, 20, 21, 22, 23, 24, 25, 26, 27, 28, 29, 30, 31, 32, 33, 34, 35], [0, 1, 2, 3, 4, 5, 6, 7, 8, 9, 10, 11, 12, 13, 14, 15, 16, 17, 18, 19, 20, 21, 22, 23, 24, 25, 26, 27, 28, 29, 30, 31, 32, 33, 34, 35, 36], [0, 1, 2, 3, 4, 5, 6, 7, 8, 9, 10, 11, 12, 13, 14, 15, 16, 17, 18, 19, 20, 21, 22, 23, 24, 25, 26, 27, 28, 29, 30, 31, 32, 33, 34, 35, 36, 37]]) [[0, 1, 2, 3, 4, 5, 6, 7, 8, 9, 10, 11, 12, 13, 14, 15, 16, 17, 18, 19, 20, 21, 22, 23, 24, 25, 26, 27, 28, 30, 31, 32, 33, 29, 34, 35, 36, 37, 38], [0, 1, 2, 3, 4, 5, 6, 7, 8, 9, 10, 11, 12, 13, 14, 15, 16, 17, 18, 19, 20, 21, 22, 23, 24, 25, 26, 27, 28, 30, 31, 32, 33, 34, 29, 35, 36, 37, 38]] (by kernel_rfl) (by kernel_rfl) (NoPanic.seq (NoPanic.block (NoPanic.seq (NoPanic.seq (NoPanic.block (NoPanic.seq (NoPanic.body))))))) ?_
            have hS2181 := hS1922.drew
            revert hS2181
            generalize World.drew w1921 = w2180
            intro hS2181
            refine ⟨trivial, forallC ?_ (forallC ?_ (forallN))⟩
            ·
              refine seg 3 [] [0, 2, 4, 7, 33, 34, 39] [(0, (.pointer (some ⟨g_p0, 0, none⟩))), (2, (.int .i64 p2)), (4, (.pointer (some ⟨g1322, 0, none⟩))), (7, (.int .i64 x1917)), (33, (.int .i64 p0.width)), (34, (.int .i64 x1917)), (39, (.bool (p2 == 0)))] [] (fun fb => by kernel_rfl) rfl trivial ?_
              refine WL.setB 39 h2062 rfl ?_
              refine seg 25 [.v (.int .i64 p0.height)] [0, 2, 4, 7, 33, 34, 53, 61] [(0, (.pointer (some ⟨g_p0, 0, none⟩))), (2, (.int .i64 p2)), (4, (.pointer (some ⟨g1322, 0, none⟩))), (7, (.int .i64 x1917)), (33, (.int .i64 p0.width)), (34, (.int .i64 x1917)), (53, (.bool false)), (61, (.bool (p2 == (w64 (p0.height - 1)))))] [.cell ⟨g_p0, 2, none⟩ (.int .i64 p0.height)] (fun fb => by kernel_rfl) rfl ⟨blk_cell (hS2181.rd 0).1 2 rfl, trivial⟩ ?_
              refine WL.setB 61 h2173 rfl ?_
              refine seg 32 [] [0, 2, 4, 33, 34, 53, 61, 65, 67, 68, 69] [(0, (.pointer (some ⟨g_p0, 0, none⟩))), (2, (.int .i64 p2)), (4, (.pointer (some ⟨g1322, 0, none⟩))), (33, (.int .i64 p0.width)), (34, (.int .i64 x1917)), (53, (.bool false)), (61, (.bool true)), (65, (.pointer (some ⟨g_p0, 3, none⟩))), (67, (.int .i64 x1917)), (68, (.int .i64 x1917)), (69, (.pointer (some ⟨g1322, 9, none⟩)))] [] (fun fb => by kernel_rfl) rfl trivial ?_
              obtain ⟨h2182, hx2061⟩ := as_some hx2061
              refine seg 35 [.v (.slice A_p0_edges_North p0.edges.North.length c_p0_edges_North), .v (.int .i64 (A8_Int.get p1.North x1917))] [0, 2, 4, 33, 34, 53, 61, 66, 67, 71] [(0, (.pointer (some ⟨g_p0, 0, none⟩))), (2, (.int .i64 p2)), (4, (.pointer (some ⟨g1322, 0, none⟩))), (33, (.int .i64 p0.width)), (34, (.int .i64 x1917)), (53, (.bool false)), (61, (.bool true)), (66, (.slice A_p0_edges_North p0.edges.North.length c_p0_edges_North)), (67, (.int .i64 x1917)), (71, (.int .i64 (A8_Int.get p1.North x1917)))] [.idx (some ⟨0, 0, none⟩) x1917 8, .cell ⟨g_p0, 3, none⟩ (.slice A_p0_edges_North p0.edges.North.length c_p0_edges_North), .cell (flatA ⟨g1322, 9, none⟩ (x1917.toNat * 1)) (.int .i64 (A8_Int.get p1.North x1917))] (fun fb => by kernel_rfl) rfl ⟨⟨h2182.1, h2182.2, rfl⟩, blk_cell (hS2181.rd 0).1 3 rfl, hS2181.cell 0 rfl _ (cases8 (Q := fun z_ => (#[(.slice A_p1_Cells p1.Cells.length c_p1_Cells), (.int .i64 p1.South.e0), (.int .i64 p1.South.e1), (.int .i64 p1.South.e2), (.int .i64 p1.South.e3), (.int .i64 p1.South.e4), (.int .i64 p1.South.e5), (.int .i64 p1.South.e6), (.int .i64 p1.South.e7), (.int .i64 p1.North.e0), (.int .i64 p1.North.e1), (.int .i64 p1.North.e2), (.int .i64 p1.North.e3), (.int .i64 p1.North.e4), (.int .i64 p1.North.e5), (.int .i64 p1.North.e6), (.int .i64 p1.North.e7), (.int .i64 p1.West), (.int .i64 p1.East)] : Array Value)[9 + z_.toNat * 1]? = some (.int .i64 (A8_Int.get p1.North z_))) h2182 (by kernel_rfl) (by kernel_rfl) (by kernel_rfl) (by kernel_rfl) (by kernel_rfl) (by kernel_rfl) (by kernel_rfl) (by kernel_rfl)), trivial⟩ ?_
              obtain ⟨t2183, ht2184, hx2061⟩ := bind_some hx2061
              refine WL.call (some 72) 68 #[(.slice A_p0_edges_North p0.edges.North.length c_p0_edges_North), (.int .i64 x1917), (.int .i64 (A8_Int.get p1.North x1917))] (fun fb => by kernel_rfl) (fill_at_calls p0.edges.North x1917 (A8_Int.get p1.North x1917) A_p0_edges_North c_p0_edges_North t2183 _ (hS2181.rd 3) ht2184) (fun v w2185 hR2186 => ?_)
              obtain ⟨rfl, hk_⟩ := hR2186
              have hS2187 := hS2181.keepN hk_
              refine ⟨trivial, ?_⟩
              refine seg 39 [] [0, 2, 4, 33, 34, 75] [(0, (.pointer (some ⟨g_p0, 0, none⟩))), (2, (.int .i64 p2)), (4, (.pointer (some ⟨g1322, 0, none⟩))), (33, (.int .i64 p0.width)), (34, (.int .i64 x1917)), (75, (.bool (!t2183)))] [] (fun fb => by kernel_rfl) rfl trivial ?_
              refine WL.done rfl ?_
              injection hx2061 with hx2061
              exact WX.to Kx2060 (!t2183) [0, 2, 4, 33, 34, 75] rfl ⟨(hS2187.subR [0, 1, 2, 3, 4, 5, 6, 7]).sub [0] (by decide), hx2061.symm⟩
            refine seg 3 [] [0, 2, 4, 7, 33, 34, 39] [(0, (.pointer (some ⟨g_p0, 0, none⟩))), (2, (.int .i64 p2)), (4, (.pointer (some ⟨g1322, 0, none⟩))), (7, (.int .i64 x1917)), (33, (.int .i64 p0.width)), (34, (.int .i64 x1917)), (39, (.bool (p2 == 0)))] [] (fun fb => by kernel_rfl) rfl trivial ?_
            refine WL.setB 39 h2062 rfl ?_
            refine seg 25 [.v (.int .i64 p0.height)] [0, 2, 4, 7, 33, 34, 53, 61] [(0, (.pointer (some ⟨g_p0, 0, none⟩))), (2, (.int .i64 p2)), (4, (.pointer (some ⟨g1322, 0, none⟩))), (7, (.int .i64 x1917)), (33, (.int .i64 p0.width)), (34, (.int .i64 x1917)), (53, (.bool false)), (61, (.bool (p2 == (w64 (p0.height - 1)))))] [.cell ⟨g_p0, 2, none⟩ (.int .i64 p0.height)] (fun fb => by kernel_rfl) rfl ⟨blk_cell (hS2181.rd 0).1 2 rfl, trivial⟩ ?_
            refine WL.setB 61 h2173 rfl ?_
            refine seg 32 [] [0, 2, 4, 33, 34, 53, 61, 65, 67, 68, 69] [(0, (.pointer (some ⟨g_p0, 0, none⟩))), (2, (.int .i64 p2)), (4, (.pointer (some ⟨g1322, 0, none⟩))), (33, (.int .i64 p0.width)), (34, (.int .i64 x1917)), (53, (.bool false)), (61, (.bool true)), (65, (.pointer (some ⟨g_p0, 3, none⟩))), (67, (.int .i64 x1917)), (68, (.int .i64 x1917)), (69, (.pointer (some ⟨g1322, 9, none⟩)))] [] (fun fb => by kernel_rfl) rfl trivial ?_
            obtain ⟨h2188, hx2061⟩ := as_some hx2061
            refine seg 35 [.v (.int .i64 (A8_Int.get p1.North x1917)), .v (.slice A_p0_edges_North p0.edges.North.length c_p0_edges_North)] [0, 2, 4, 33, 34, 53, 61, 66, 67, 71] [(0, (.pointer (some ⟨g_p0, 0, none⟩))), (2, (.int .i64 p2)), (4, (.pointer (some ⟨g1322, 0, none⟩))), (33, (.int .i64 p0.width)), (34, (.int .i64 x1917)), (53, (.bool false)), (61, (.bool true)), (66, (.slice A_p0_edges_North p0.edges.North.length c_p0_edges_North)), (67, (.int .i64 x1917)), (71, (.int .i64 (A8_Int.get p1.North x1917)))] [.idx (some ⟨0, 0, none⟩) x1917 8, .cell (flatA ⟨g1322, 9, none⟩ (x1917.toNat * 1)) (.int .i64 (A8_Int.get p1.North x1917)), .cell ⟨g_p0, 3, none⟩ (.slice A_p0_edges_North p0.edges.North.length c_p0_edges_North)] (fun fb => by kernel_rfl) rfl ⟨⟨h2188.1, h2188.2, rfl⟩, hS2181.cell 0 rfl _ (cases8 (Q := fun z_ => (#[(.slice A_p1_Cells p1.Cells.length c_p1_Cells), (.int .i64 p1.South.e0), (.int .i64 p1.South.e1), (.int .i64 p1.South.e2), (.int .i64 p1.South.e3), (.int .i64 p1.South.e4), (.int .i64 p1.South.e5), (.int .i64 p1.South.e6), (.int .i64 p1.South.e7), (.int .i64 p1.North.e0), (.int .i64 p1.North.e1), (.int .i64 p1.North.e2), (.int .i64 p1.North.e3), (.int .i64 p1.North.e4), (.int .i64 p1.North.e5), (.int .i64 p1.North.e6), (.int .i64 p1.North.e7), (.int .i64 p1.West), (.int .i64 p1.East)] : Array Value)[9 + z_.toNat * 1]? = some (.int .i64 (A8_Int.get p1.North z_))) h2188 (by kernel_rfl) (by kernel_rfl) (by kernel_rfl) (by kernel_rfl) (by kernel_rfl) (by kernel_rfl) (by kernel_rfl) (by kernel_rfl)), blk_cell (hS2181.rd 0).1 3 rfl, trivial⟩ ?_
            obtain ⟨t2189, ht2190, hx2061⟩ := bind_some hx2061
            refine WL.call (some 72) 68 #[(.slice A_p0_edges_North p0.edges.North.length c_p0_edges_North), (.int .i64 x1917), (.int .i64 (A8_Int.get p1.North x1917))] (fun fb => by kernel_rfl) (fill_at_calls p0.edges.North x1917 (A8_Int.get p1.North x1917) A_p0_edges_North c_p0_edges_North t2189 _ (hS2181.rd 3) ht2190) (fun v w2191 hR2192 => ?_)
            obtain ⟨rfl, hk_⟩ := hR2192
            have hS2193 := hS2181.keepN hk_
            refine ⟨trivial, ?_⟩
            refine seg 39 [] [0, 2, 4, 33, 34, 75] [(0, (.pointer (some ⟨g_p0, 0, none⟩))), (2, (.int .i64 p2)), (4, (.pointer (some ⟨g1322, 0, none⟩))), (33, (.int .i64 p0.width)), (34, (.int .i64 x1917)), (75, (.bool (!t2189)))] [] (fun fb => by kernel_rfl) rfl trivial ?_
            refine WL.done rfl ?_
            injection hx2061 with hx2061
            exact WX.to Kx2060 (!t2189) [0, 2, 4, 33, 34, 75] rfl ⟨(hS2193.subR [0, 1, 2, 3, 4, 5, 6, 7]).sub [0] (by decide), hx2061.symm⟩
          refine WC.regionD ([], [0, 1, 2, 3, 4, 5, 6, 7, 8, 9, 10, 11, 12, 14, 15, 16, 17, 18, 19, 20, 22, 23, 24, 25, 26, 27, 28, 30, 31, 32, 33, 36, 37, 38], [[], [0], [0, 1], [0, 1, 2], [0, 1, 2, 3], [0, 1, 2, 3, 4], [0, 1, 2, 3, 4, 5], [0, 1, 2, 3, 4, 5, 6], [0, 1, 2], [0, 1, 2], [0, 1, 2], [0, 1, 2, 9, 10], [0, 1, 2, 9, 10, 11], [0, 1, 2, 3, 4, 5, 6, 7, 8, 9, 10, 11, 12], [0, 1, 2, 3, 4, 5, 6, 7, 8, 9, 10, 11, 12, 13], [0, 1, 2, 3, 4, 5, 6, 7, 8, 9, 10, 11, 12, 13, 14], [0, 1, 2, 3, 4, 5, 6, 7, 8, 9, 10, 11, 12, 13, 14, 15], [0, 1, 2, 3, 4, 5, 6, 7, 8, 9, 10, 11, 12, 13, 14, 15, 16], [0, 1, 2, 3, 4, 5, 6, 7, 8, 9, 10, 11, 12, 13, 14, 15, 16], [0, 1, 2, 3, 4, 5, 6, 7, 8, 9, 10, 11, 12, 13, 14, 15, 16, 18], [0, 1, 2, 3, 4, 5, 6, 7, 8, 9, 10, 11, 12, 13, 14, 15, 16, 18, 19], [0, 1, 2, 3, 4, 5, 6, 7, 8, 9, 10, 11, 12, 13, 14, 15, 16, 18, 19, 20], [0, 1, 2, 3, 4, 5, 6, 7, 8, 9, 10, 11, 12, 13, 14, 15, 16, 18, 19, 20, 21], [0, 1, 2, 3, 4, 5, 6, 7, 8, 9, 10, 11, 12, 13, 14, 15, 16, 17, 18, 19, 20, 21, 22], [0, 1, 2, 3, 4, 5, 6, 7, 8, 9, 10, 11, 12, 13, 14, 15, 16, 17, 18, 19, 20, 21, 22, 23], [0, 1, 2, 3, 4, 5, 6, 7, 8, 9, 10, 11, 12, 13, 14, 15, 16, 17, 18, 19, 20, 21, 22, 23, 24], [0, 1, 2, 3, 4, 5, 6, 7, 8, 9, 10, 11, 12, 13, 14, 15, 16, 17, 18, 19, 20, 21, 22, 23, 24, 25], [0, 1, 2, 3, 4, 5, 6, 7, 8, 9, 10, 11, 12, 13, 14, 15, 16, 17, 18, 19, 20, 21, 22, 23, 24, 25, 26], [0, 1, 2, 3, 4, 5, 6, 7, 8, 9, 10, 11, 12, 13, 14, 15, 16, 17, 18, 19, 20, 21, 22, 23, 24, 25, 26, 27], [0, 1, 2, 3, 4, 5, 6, 7, 8, 9, 10, 11, 12, 13, 14, 15, 16, 17, 18, 19, 20, 21, 22, 23, 24, 25, 26, 27, 28], [0, 1, 2, 3, 4, 5, 6, 7, 8, 9, 10, 11, 12, 13, 14, 15, 16, 17, 18, 19, 20, 21, 22, 23, 24], [0, 1, 2, 3, 4, 5, 6, 7, 8, 9, 10, 11, 12, 13, 14, 15, 16, 17, 18, 19, 20, 21, 22, 23, 24], [0, 1, 2, 3, 4, 5, 6, 7, 8, 9, 10, 11, 12, 13, 14, 15, 16, 17, 18, 19, 20, 21, 22, 23, 24], [0, 1, 2, 3, 4, 5, 6, 7, 8, 9, 10, 11, 12, 13, 14, 15, 16, 17, 18, 19, 20, 21, 22, 23, 24, 31, 32], [0, 1, 2, 3, 4, 5, 6, 7, 8, 9, 10, 11, 12, 13, 14, 15, 16, 17, 18, 19, 20, 21, 22, 23, 24, 31, 32, 33], [0, 1, 2, 3, 4, 5, 6, 7, 8, 9, 10, 11, 12, 13, 14, 15, 16, 17, 18, 19, 20, 21, 22, 23, 24, 25, 26, 27, 28, 29, 30, 31, 32, 33, 34], [0, 1, 2, 3, 4, 5, 6, 7, 8, 9, 10, 11, 12, 13, 14, 15, 16, 17, 18, 19, 20, 21, 22, 23, 24, 25, 26, 27, 28, 29, 30, 31, 32, 33, 34, 35], [0, 1, 2, 3, 4, 5, 6, 7, 8, 9, 10, 11, 12, 13, 14, 15, 16, 17, 18, 19, 20, 21, 22, 23, 24, 25, 26, 27, 28, 29, 30, 31, 32, 33, 34, 35, 36], [0, 1, 2, 3, 4, 5, 6, 7, 8, 9, 10, 11, 12, 13, 14, 15, 16, 17, 18, 19, 20, 21, 22, 23, 24, 25, 26, 27, 28, 29, 30, 31, 32, 33, 34, 35, 36, 37]]) [[0, 1, 2, 3, 4, 5, 6, 7, 8, 9, 10, 11, 12, 13, 14, 15, 16, 17, 18, 19, 20, 21, 22, 23, 24, 25, 26, 27, 28, 30, 31, 32, 33, 29, 34, 35, 36, 37, 38], [0, 1, 2, 3, 4, 5, 6, 7, 8, 9, 10, 11, 12, 13, 14, 15, 16, 17, 18, 19, 20, 21, 22, 23, 24, 25, 26, 27, 28, 30, 31, 32, 33, 34, 29, 35, 36, 37, 38]] (by kernel_rfl) (by kernel_rfl) (NoPanic.seq (NoPanic.block (NoPanic.seq (NoPanic.seq (NoPanic.block (NoPanic.seq (NoPanic.body))))))) ?_
          have hS2195 := hS1922.drew
          revert hS2195
          generalize World.drew w1921 = w2194
          intro hS2195
          refine ⟨trivial, forallC ?_ (forallC ?_ (forallN))⟩
          ·
            refine seg 3 [] [0, 2, 4, 7, 33, 34, 39] [(0, (.pointer (some ⟨g_p0, 0, none⟩))), (2, (.int .i64 p2)), (4, (.pointer (some ⟨g1322, 0, none⟩))), (7, (.int .i64 x1917)), (33, (.int .i64 p0.width)), (34, (.int .i64 x1917)), (39, (.bool (p2 == 0)))] [] (fun fb => by kernel_rfl) rfl trivial ?_
            refine WL.setB 39 h2062 rfl ?_
            refine seg 25 [.v (.int .i64 p0.height)] [0, 2, 4, 7, 33, 34, 53, 61] [(0, (.pointer (some ⟨g_p0, 0, none⟩))), (2, (.int .i64 p2)), (4, (.pointer (some ⟨g1322, 0, none⟩))), (7, (.int .i64 x1917)), (33, (.int .i64 p0.width)), (34, (.int .i64 x1917)), (53, (.bool false)), (61, (.bool (p2 == (w64 (p0.height - 1)))))] [.cell ⟨g_p0, 2, none⟩ (.int .i64 p0.height)] (fun fb => by kernel_rfl) rfl ⟨blk_cell (hS2195.rd 0).1 2 rfl, trivial⟩ ?_
            refine WL.setB 61 h2173 rfl ?_
            refine seg 39 [] [0, 2, 4, 33, 34, 75] [(0, (.pointer (some ⟨g_p0, 0, none⟩))), (2, (.int .i64 p2)), (4, (.pointer (some ⟨g1322, 0, none⟩))), (33, (.int .i64 p0.width)), (34, (.int .i64 x1917)), (75, (.bool false))] [] (fun fb => by kernel_rfl) rfl trivial ?_
            refine WL.done rfl ?_
            injection hx2061 with hx2061
            exact WX.to Kx2060 false [0, 2, 4, 33, 34, 75] rfl ⟨(hS2195.subR [0, 1, 2, 3, 4, 5, 6, 7]).sub [0] (by decide), hx2061.symm⟩
          refine seg 3 [] [0, 2, 4, 7, 33, 34, 39] [(0, (.pointer (some ⟨g_p0, 0, none⟩))), (2, (.int .i64 p2)), (4, (.pointer (some ⟨g1322, 0, none⟩))), (7, (.int .i64 x1917)), (33, (.int .i64 p0.width)), (34, (.int .i64 x1917)), (39, (.bool (p2 == 0)))] [] (fun fb => by kernel_rfl) rfl trivial ?_
          refine WL.setB 39 h2062 rfl ?_
          refine seg 25 [.v (.int .i64 p0.height)] [0, 2, 4, 7, 33, 34, 53, 61] [(0, (.pointer (some ⟨g_p0, 0, none⟩))), (2, (.int .i64 p2)), (4, (.pointer (some ⟨g1322, 0, none⟩))), (7, (.int .i64 x1917)), (33, (.int .i64 p0.width)), (34, (.int .i64 x1917)), (53, (.bool false)), (61, (.bool (p2 == (w64 (p0.height - 1)))))] [.cell ⟨g_p0, 2, none⟩ (.int .i64 p0.height)] (fun fb => by kernel_rfl) rfl ⟨blk_cell (hS2195.rd 0).1 2 rfl, trivial⟩ ?_
          refine WL.setB 61 h2173 rfl ?_
          refine seg 39 [] [0, 2, 4, 33, 34, 75] [(0, (.pointer (some ⟨g_p0, 0, none⟩))), (2, (.int .i64 p2)), (4, (.pointer (some ⟨g1322, 0, none⟩))), (33, (.int .i64 p0.width)), (34, (.int .i64 x1917)), (75, (.bool false))] [] (fun fb => by kernel_rfl) rfl trivial ?_
          refine WL.done rfl ?_
          injection hx2061 with hx2061
          exact WX.to Kx2060 false [0, 2, 4, 33, 34, 75] rfl ⟨(hS2195.subR [0, 1, 2, 3, 4, 5, 6, 7]).sub [0] (by decide), hx2061.symm⟩
        rintro y2199 w2196 ⟨hS2197, hq2198⟩
        subst hq2198
        refine WX.next ?_
        rcases br_some hl1923 with ⟨h2200, hl1923⟩ | ⟨h2200, hl1923⟩
        · refine WC.condT2 (fun fb => by kernel_rfl) h2200 ?_
          refine WC.seq ?_
          refine WC.region ?_
          refine seg 1 [] [6] [(6, (.bool false))] [] (fun fb => by kernel_rfl) rfl trivial ?_
          refine WL.done rfl ?_
          refine WX.next ?_
          refine WC.ret ?_
          injection hl1923 with hl1923
          subst hl1923
          injection hf with hf
          subst hf
          exact WX.blockR (WX.thenR (WX.thenR (WX.blockR (WX.thenR (WX.ret_ [] (.bool false) [] (fun fb => by kernel_rfl) trivial ⟨_, rfl, rfl, hS2197.keep⟩)))))
        refine WC.condF2 (fun fb => by kernel_rfl) h2200 ?_
        refine WC.skip ?_
        refine WX.blockN (WX.next ?_)
        refine WC.region ?_
        refine seg 2 [] [0, 2, 4, 33, 34] [(0, (.pointer (some ⟨g_p0, 0, none⟩))), (2, (.int .i64 p2)), (4, (.pointer (some ⟨g1322, 0, none⟩))), (33, (.int .i64 p0.width)), (34, (.int .i64 (w64 (x1917 + 1))))] [] (fun fb => by kernel_rfl) rfl trivial ?_
        refine WL.done rfl ?_
        exact WX.again k1920 (Nat.lt_succ_self _) (w64 (x1917 + 1)) [0, 2, 4, 33, 34] rfl ⟨(hS2197.subR [0, 1, 2, 3, 4, 5, 6, 7]).sub [0] (by decide), hl1923⟩
      refine WC.condF2 (fun fb => by kernel_rfl) h1924 ?_
      refine WC.exit ?_
      injection hl1923 with hl1923
      exact WX.thenX (WX.thenX (WX.blockHere (WX.to Kx1918 () [] rfl ⟨(hS1922.subR [0, 1, 2, 3, 4, 5, 6, 7]).sub [] (by decide), hl1923.symm⟩)))
  rintro y2204 w2201 ⟨hS2202, hq2203⟩
  subst hq2203
  have hf := sum_inr hf
  refine WX.next ?_
  refine WC.seq ?_
  refine WC.region ?_
  refine seg 1 [] [6] [(6, (.bool true))] [] (fun fb => by kernel_rfl) rfl trivial ?_
  refine WL.done rfl ?_
  refine WX.next ?_
  refine WC.ret ?_
  injection hf with hf
  subst hf
  exact WX.ret_ [] (.bool true) [] (fun fb => by kernel_rfl) trivial ⟨_, rfl, rfl, hS2202.keep⟩
end Gp
