/- Walks: each function of the program computes its plain function. -/
import Derived.Test.YtcmgcacpmbldeaaDoorGp
set_option linter.unusedVariables false
set_option linter.unusedSimpArgs false
namespace Gp
open Go Gw Go.Proofs
theorem ref01_colour_calls (p0 : Int)  (r : Bool) (w : World)  (hf : ref01_colour p0 = some r) :
    CallsR Tryd.prog 47 #[(.int .i64 p0)] w (fun v w' => v = (.bool r) ∧ Keeps NoS w w') := by
  have hS : St NoS w w [] [] := St.init (ro_nil _ _)
  refine enter 9 Tryd.func47 rfl Tryd.ntmps47 rfl ?_
  unfold ref01_colour at hf
  refine WC.seq ?_
  refine WC.region ?_
  refine seg 1 [] [0] [(0, (.int .i64 p0))] [] (fun fb => by kernel_rfl) rfl trivial ?_
  refine WL.done rfl ?_
  refine WX.next ?_
  refine WC.seq ?_
  refine WC.region ?_
  refine seg 3 [] [0, 5] [(0, (.int .i64 p0)), (5, (.bool (decide (p0 ≥ 0))))] [] (fun fb => by kernel_rfl) rfl trivial ?_
  refine WL.cutV (T := Bool) 6 (fun t => [(8, (.bool t))]) (fun t => t = ((decide (p0 ≥ 0)) && (decide (p0 < 1000)))) (fun K => ?_) ?_
  ·
    rcases Bool.eq_false_or_eq_true (decide (p0 ≥ 0)) with h20 | h20
    ·
      refine WL.setB 5 h20 rfl ?_
      refine seg 6 [] [8] [(8, (.bool (decide (p0 < 1000))))] [] (fun fb => by kernel_rfl) rfl trivial ?_
      exact WL.toV K (decide (p0 < 1000)) [8] rfl (by first | (rw [h20]; done) | (rw [h20]; rfl))
    refine WL.setB 5 h20 rfl ?_
    refine seg 6 [] [8] [(8, (.bool false))] [] (fun fb => by kernel_rfl) rfl trivial ?_
    exact WL.toV K false [8] rfl (by first | (rw [h20]; done) | (rw [h20]; rfl))
  rintro b21 rfl
  refine seg 7 [] [2] [(2, (.bool ((decide (p0 ≥ 0)) && (decide (p0 < 1000)))))] [] (fun fb => by kernel_rfl) rfl trivial ?_
  refine WL.done rfl ?_
  refine WX.next ?_
  refine WC.ret ?_
  injection hf with hf
  subst hf
  exact WX.ret_ [] (.bool ((decide (p0 ≥ 0)) && (decide (p0 < 1000)))) [] (fun fb => by kernel_rfl) trivial ⟨_, rfl, rfl, hS.keep⟩
theorem ref01_Index_calls (k : Nat) (p0 : List Tile) (p1 : Tile) (A_p0 : Option Addr) (c_p0 : Nat) (r : Int) (w : World) (hR0 : RO NoS w (rowR enc_Tile A_p0 c_p0 p0)) (hf : ref01_Index k p0 p1 = some r) :
    CallsR Tryd.prog 48 #[(.slice A_p0 p0.length c_p0), (.agg #[(.int .i64 p1.N), (.int .i64 p1.E), (.int .i64 p1.S), (.int .i64 p1.W)])] w (fun v w' => v = (.int .i64 r) ∧ Keeps NoS w w') := by
  have hS : St NoS w w [rowR enc_Tile A_p0 c_p0 p0] [] := St.init (ro_cons hR0 (ro_nil _ _))
  refine enter 19 Tryd.func48 rfl Tryd.ntmps48 rfl ?_
  unfold ref01_Index at hf
  refine WC.seq ?_
  refine WC.region ?_
  refine WL.new hS 3 [] (fun g => (.pointer (some ⟨g, 0, none⟩))) (.cells #[(.int .i64 p1.N), (.int .i64 p1.E), (.int .i64 p1.S), (.int .i64 p1.W)] 62 (0, 0)) [] (fun fb g => by kernel_rfl) trivial (fun g86 w87 hS88 => ?_)
  refine ⟨trivial, ?_⟩
  refine seg 2 [] [0, 3] [(0, (.slice A_p0 p0.length c_p0)), (3, (.pointer (some ⟨g86, 0, none⟩)))] [] (fun fb => by kernel_rfl) rfl trivial ?_
  refine WL.done rfl ?_
  refine WX.next ?_
  refine WC.seq ?_
  refine WC.seq ?_
  refine WC.region ?_
  refine seg 1 [] [0, 3, 5] [(0, (.slice A_p0 p0.length c_p0)), (3, (.pointer (some ⟨g86, 0, none⟩))), (5, (.int .i64 0))] [] (fun fb => by kernel_rfl) rfl trivial ?_
  refine WL.done rfl ?_
  refine WX.next ?_
  obtain ⟨x106, hx107, hf⟩ := bind_some hf
  refine WC.cutN (T := Unit) (fun t => []) (fun t w1 => St NoS w w1 [rowR enc_Tile A_p0 c_p0 p0] [] ∧ x106 = .inr t) (fun Kx106 => ?_) ?_
  ·
    refine WC.block ?_
    refine WC.loop (T := Int) (fun t => [(0, (.slice A_p0 p0.length c_p0)), (3, (.pointer (some ⟨g86, 0, none⟩))), (5, (.int .i64 t))]) (fun n t w1 => St NoS w w1 [rowR enc_Tile A_p0 c_p0 p0] [blk g86 (.cells #[(.int .i64 p1.N), (.int .i64 p1.E), (.int .i64 p1.S), (.int .i64 p1.W)] 62 (0, 0))] ∧ ref01_Index.l0 n t p0 p1 = some x106) k 0 [0, 3, 5] rfl ⟨(hS88.subR [0]).sub [0] (by decide), hx107⟩ ?_
    rintro k108 x105 w109 ⟨hS110, hl111⟩
    cases k108 with
    | zero => rw [ref01_Index.l0] at hl111; cases hl111
    | succ k108 =>
      rw [ref01_Index.l0] at hl111
      refine WC.seq ?_
      refine WC.seq ?_
      refine WC.region ?_
      refine seg 4 [] [0, 3, 5, 9] [(0, (.slice A_p0 p0.length c_p0)), (3, (.pointer (some ⟨g86, 0, none⟩))), (5, (.int .i64 x105)), (9, (.bool (decide (x105 < (p0.length : Int)))))] [] (fun fb => by kernel_rfl) rfl trivial ?_
      refine WL.done rfl ?_
      refine WX.next ?_
      rcases br_some hl111 with ⟨h112, hl111⟩ | ⟨h112, hl111⟩
      · refine WC.condT2 (fun fb => by kernel_rfl) h112 ?_
        refine WC.skip ?_
        refine WX.next ?_
        refine WC.seq ?_
        refine WC.block ?_
        refine WC.seq ?_
        obtain ⟨h117, hl111⟩ := as_some hl111
        refine WC.regionD ([(3, ((adr A_p0).add ((x105).toNat * 4)), (.int .i64 ((rdD p0 x105 z_Tile).N))), (3, (((adr A_p0).add ((x105).toNat * 4)).add 1), (.int .i64 ((rdD p0 x105 z_Tile).E))), (3, (((adr A_p0).add ((x105).toNat * 4)).add 2), (.int .i64 ((rdD p0 x105 z_Tile).S))), (3, (((adr A_p0).add ((x105).toNat * 4)).add 3), (.int .i64 ((rdD p0 x105 z_Tile).W))), (4, ⟨g86, 0, none⟩, (.int .i64 p1.N)), (4, ⟨g86, 1, none⟩, (.int .i64 p1.E)), (4, ⟨g86, 2, none⟩, (.int .i64 p1.S)), (4, ⟨g86, 3, none⟩, (.int .i64 p1.W))], [0, 1, 2, 3, 4, 5], [[], [], [0, 1], [0, 1, 2], [], [0, 1, 2, 3, 4]]) [[0, 1, 2, 3, 4, 5]] (by kernel_rfl) (by kernel_rfl) (NoPanic.seq (NoPanic.block (NoPanic.seq (NoPanic.seq (NoPanic.block (NoPanic.seq (NoPanic.body))))))) ?_
        have hS115 := hS110.drew
        revert hS115
        generalize World.drew w109 = w114
        intro hS115
        refine ⟨⟨rowR.cell (hS115.rd 0).1 z_Tile h117.1 h117.2 0 rfl, rowR.cell (hS115.rd 0).1 z_Tile h117.1 h117.2 1 rfl, rowR.cell (hS115.rd 0).1 z_Tile h117.1 h117.2 2 rfl, rowR.cell (hS115.rd 0).1 z_Tile h117.1 h117.2 3 rfl, hS115.cell 0 rfl 0 rfl, hS115.cell 0 rfl 1 rfl, hS115.cell 0 rfl 2 rfl, hS115.cell 0 rfl 3 rfl, trivial⟩, forallC ?_ (forallN)⟩
        refine segF 6 [.v (.int .i64 ((rdD p0 x105 z_Tile).N)), .v (.int .i64 ((rdD p0 x105 z_Tile).E)), .v (.int .i64 ((rdD p0 x105 z_Tile).S)), .v (.int .i64 ((rdD p0 x105 z_Tile).W)), .v (.int .i64 p1.N), .v (.int .i64 p1.E), .v (.int .i64 p1.S), .v (.int .i64 p1.W)] [0, 3, 5, 17] [(0, (.slice A_p0 p0.length c_p0)), (3, (.pointer (some ⟨g86, 0, none⟩))), (5, (.int .i64 x105)), (17, (.bool (((rdD p0 x105 z_Tile).N) == p1.N && (((rdD p0 x105 z_Tile).E) == p1.E && (((rdD p0 x105 z_Tile).S) == p1.S && (((rdD p0 x105 z_Tile).W) == p1.W))))))] [.idx A_p0 x105 p0.length] [0, 1, 2, 3, 4, 5, 6, 7] [(3, ((adr A_p0).add ((x105).toNat * 4)), (.int .i64 ((rdD p0 x105 z_Tile).N))), (3, (((adr A_p0).add ((x105).toNat * 4)).add 1), (.int .i64 ((rdD p0 x105 z_Tile).E))), (3, (((adr A_p0).add ((x105).toNat * 4)).add 2), (.int .i64 ((rdD p0 x105 z_Tile).S))), (3, (((adr A_p0).add ((x105).toNat * 4)).add 3), (.int .i64 ((rdD p0 x105 z_Tile).W))), (4, ⟨g86, 0, none⟩, (.int .i64 p1.N)), (4, ⟨g86, 1, none⟩, (.int .i64 p1.E)), (4, ⟨g86, 2, none⟩, (.int .i64 p1.S)), (4, ⟨g86, 3, none⟩, (.int .i64 p1.W))] (fun fb => by kernel_rfl) rfl ⟨rowR.adr (hS115.rd 0).1 h117.1 h117.2, trivial⟩ rfl ?_
        refine WL.done rfl ?_
        refine WX.next ?_
        rcases br_some hl111 with ⟨h118, hl111⟩ | ⟨h118, hl111⟩
        · refine WC.condT2 (fun fb => by kernel_rfl) h118 ?_
          refine WC.seq ?_
          refine WC.region ?_
          refine seg 2 [] [4] [(4, (.int .i64 x105))] [] (fun fb => by kernel_rfl) rfl trivial ?_
          refine WL.done rfl ?_
          refine WX.next ?_
          refine WC.ret ?_
          injection hl111 with hl111
          subst hl111
          injection hf with hf
          subst hf
          exact WX.blockR (WX.thenR (WX.thenR (WX.blockR (WX.thenR (WX.ret_ [] (.int .i64 x105) [] (fun fb => by kernel_rfl) trivial ⟨_, rfl, rfl, hS115.keep⟩)))))
        refine WC.condF2 (fun fb => by kernel_rfl) h118 ?_
        refine WC.skip ?_
        refine WX.blockN (WX.next ?_)
        refine WC.region ?_
        refine seg 3 [] [0, 3, 5] [(0, (.slice A_p0 p0.length c_p0)), (3, (.pointer (some ⟨g86, 0, none⟩))), (5, (.int .i64 (w64 (x105 + 1))))] [] (fun fb => by kernel_rfl) rfl trivial ?_
        refine WL.done rfl ?_
        exact WX.again k108 (Nat.lt_succ_self _) (w64 (x105 + 1)) [0, 3, 5] rfl ⟨(hS115.subR [0]).sub [0] (by decide), hl111⟩
      refine WC.condF2 (fun fb => by kernel_rfl) h112 ?_
      refine WC.exit ?_
      injection hl111 with hl111
      exact WX.thenX (WX.thenX (WX.blockHere (WX.to Kx106 () [] rfl ⟨(hS110.subR [0]).sub [] (by decide), hl111.symm⟩)))
  rintro y122 w119 ⟨hS120, hq121⟩
  subst hq121
  have hf := sum_inr hf
  refine WX.next ?_
  refine WC.seq ?_
  refine WC.region ?_
  refine seg 1 [] [4] [(4, (.int .i64 (-1)))] [] (fun fb => by kernel_rfl) rfl trivial ?_
  refine WL.done rfl ?_
  refine WX.next ?_
  refine WC.ret ?_
  injection hf with hf
  subst hf
  exact WX.ret_ [] (.int .i64 (-1)) [] (fun fb => by kernel_rfl) trivial ⟨_, rfl, rfl, hS120.keep⟩
theorem ref01_Valid_calls (k : Nat) (p0 : List Tile) (A_p0 : Option Addr) (c_p0 : Nat) (r : Bool) (w : World) (hR0 : RO NoS w (rowR enc_Tile A_p0 c_p0 p0)) (hf : ref01_Valid k p0 = some r) :
    CallsR Tryd.prog 17 #[(.slice A_p0 p0.length c_p0)] w (fun v w' => v = (.bool r) ∧ Keeps NoS w w') := by
  have hS : St NoS w w [rowR enc_Tile A_p0 c_p0 p0] [] := St.init (ro_cons hR0 (ro_nil _ _))
  refine enter 48 Tryd.func17 rfl Tryd.ntmps17 rfl ?_
  unfold ref01_Valid at hf
  refine WC.seq ?_
  refine WC.region ?_
  refine seg 1 [] [0] [(0, (.slice A_p0 p0.length c_p0))] [] (fun fb => by kernel_rfl) rfl trivial ?_
  refine WL.done rfl ?_
  refine WX.next ?_
  refine WC.seq ?_
  refine WC.seq ?_
  refine WC.region ?_
  refine seg 3 [] [0, 7] [(0, (.slice A_p0 p0.length c_p0)), (7, (.bool (decide ((p0.length : Int) > 1000))))] [] (fun fb => by kernel_rfl) rfl trivial ?_
  refine WL.done rfl ?_
  refine WX.next ?_
  rcases br_some hf with ⟨h11, hf⟩ | ⟨h11, hf⟩
  · refine WC.condT2 (fun fb => by kernel_rfl) h11 ?_
    refine WC.seq ?_
    refine WC.region ?_
    refine seg 1 [] [2] [(2, (.bool false))] [] (fun fb => by kernel_rfl) rfl trivial ?_
    refine WL.done rfl ?_
    refine WX.next ?_
    refine WC.ret ?_
    injection hf with hf
    subst hf
    exact WX.thenR (WX.ret_ [] (.bool false) [] (fun fb => by kernel_rfl) trivial ⟨_, rfl, rfl, hS.keep⟩)
  refine WC.condF2 (fun fb => by kernel_rfl) h11 ?_
  refine WC.skip ?_
  refine WX.next ?_
  refine WC.seq ?_
  refine WC.seq ?_
  refine WC.region ?_
  refine seg 1 [] [0, 3] [(0, (.slice A_p0 p0.length c_p0)), (3, (.int .i64 0))] [] (fun fb => by kernel_rfl) rfl trivial ?_
  refine WL.done rfl ?_
  refine WX.next ?_
  obtain ⟨x416, hx417, hf⟩ := bind_some hf
  refine WC.cutN (T := Unit) (fun t => []) (fun t w1 => St NoS w w1 [rowR enc_Tile A_p0 c_p0 p0] [] ∧ x416 = .inr t) (fun Kx416 => ?_) ?_
  ·
    refine WC.block ?_
    refine WC.loop (T := Int) (fun t => [(0, (.slice A_p0 p0.length c_p0)), (3, (.int .i64 t))]) (fun n t w1 => St NoS w w1 [rowR enc_Tile A_p0 c_p0 p0] [] ∧ ref01_Valid.l0 n t p0 = some x416) k 0 [0, 3] rfl ⟨(hS.subR [0]).sub [] (by decide), hx417⟩ ?_
    rintro k418 x415 w419 ⟨hS420, hl421⟩
    cases k418 with
    | zero => rw [ref01_Valid.l0] at hl421; cases hl421
    | succ k418 =>
      rw [ref01_Valid.l0] at hl421
      refine WC.seq ?_
      refine WC.seq ?_
      refine WC.region ?_
      refine seg 4 [] [0, 3, 11] [(0, (.slice A_p0 p0.length c_p0)), (3, (.int .i64 x415)), (11, (.bool (decide (x415 < (p0.length : Int)))))] [] (fun fb => by kernel_rfl) rfl trivial ?_
      refine WL.done rfl ?_
      refine WX.next ?_
      rcases br_some hl421 with ⟨h422, hl421⟩ | ⟨h422, hl421⟩
      · refine WC.condT2 (fun fb => by kernel_rfl) h422 ?_
        refine WC.skip ?_
        refine WX.next ?_
        refine WC.seq ?_
        refine WC.block ?_
        refine WC.seq ?_
        refine WC.region ?_
        refine seg 2 [] [0, 3, 14, 15] [(0, (.slice A_p0 p0.length c_p0)), (3, (.int .i64 x415)), (14, (.slice A_p0 p0.length c_p0)), (15, (.int .i64 x415))] [] (fun fb => by kernel_rfl) rfl trivial ?_
        obtain ⟨h423, hl421⟩ := as_some hl421
        refine seg 4 [.v (.int .i64 ((rdD p0 x415 z_Tile).N)), .v (.int .i64 ((rdD p0 x415 z_Tile).E)), .v (.int .i64 ((rdD p0 x415 z_Tile).S)), .v (.int .i64 ((rdD p0 x415 z_Tile).W))] [0, 3, 17] [(0, (.slice A_p0 p0.length c_p0)), (3, (.int .i64 x415)), (17, (.agg #[(.int .i64 ((rdD p0 x415 z_Tile).N)), (.int .i64 ((rdD p0 x415 z_Tile).E)), (.int .i64 ((rdD p0 x415 z_Tile).S)), (.int .i64 ((rdD p0 x415 z_Tile).W))]))] [.idx A_p0 x415 p0.length, .cell ((adr A_p0).add ((x415).toNat * 4)) (.int .i64 ((rdD p0 x415 z_Tile).N)), .cell (((adr A_p0).add ((x415).toNat * 4)).add 1) (.int .i64 ((rdD p0 x415 z_Tile).E)), .cell (((adr A_p0).add ((x415).toNat * 4)).add 2) (.int .i64 ((rdD p0 x415 z_Tile).S)), .cell (((adr A_p0).add ((x415).toNat * 4)).add 3) (.int .i64 ((rdD p0 x415 z_Tile).W))] (fun fb => by kernel_rfl) rfl ⟨rowR.adr (hS420.rd 0).1 h423.1 h423.2, rowR.cell (hS420.rd 0).1 z_Tile h423.1 h423.2 0 rfl, rowR.cell (hS420.rd 0).1 z_Tile h423.1 h423.2 1 rfl, rowR.cell (hS420.rd 0).1 z_Tile h423.1 h423.2 2 rfl, rowR.cell (hS420.rd 0).1 z_Tile h423.1 h423.2 3 rfl, trivial⟩ ?_
        refine WL.new hS420 4 [] (fun g => (.pointer (some ⟨g, 0, none⟩))) (.cells #[(.int .i64 0), (.int .i64 0), (.int .i64 0), (.int .i64 0)] 62 (0, 0)) [] (fun fb g => by kernel_rfl) trivial (fun g424 w425 hS426 => ?_)
        refine ⟨trivial, ?_⟩
        refine WL.store hS426 0 rfl [(0, (.int .i64 ((rdD p0 x415 z_Tile).N))), (1, (.int .i64 ((rdD p0 x415 z_Tile).E))), (2, (.int .i64 ((rdD p0 x415 z_Tile).S))), (3, (.int .i64 ((rdD p0 x415 z_Tile).W)))] #[(.int .i64 ((rdD p0 x415 z_Tile).N)), (.int .i64 ((rdD p0 x415 z_Tile).E)), (.int .i64 ((rdD p0 x415 z_Tile).S)), (.int .i64 ((rdD p0 x415 z_Tile).W))] (fun fb => by kernel_rfl) (by kernel_rfl) rfl [] (by decide) (by decide) (fun w428 hS429 => ?_)
        refine ⟨trivial, ?_⟩
        refine WL.done rfl ?_
        refine WX.next ?_
        refine WC.seq ?_
        refine WC.regionD ([(1, ⟨g424, 0, none⟩, (.int .i64 ((rdD p0 x415 z_Tile).N))), (6, ⟨g424, 1, none⟩, (.int .i64 ((rdD p0 x415 z_Tile).E))), (12, ⟨g424, 2, none⟩, (.int .i64 ((rdD p0 x415 z_Tile).S))), (18, ⟨g424, 3, none⟩, (.int .i64 ((rdD p0 x415 z_Tile).W))), (26, ⟨g424, 0, none⟩, (.int .i64 ((rdD p0 x415 z_Tile).N))), (26, ⟨g424, 1, none⟩, (.int .i64 ((rdD p0 x415 z_Tile).E))), (26, ⟨g424, 2, none⟩, (.int .i64 ((rdD p0 x415 z_Tile).S))), (26, ⟨g424, 3, none⟩, (.int .i64 ((rdD p0 x415 z_Tile).W)))], [0, 1, 3, 4, 5, 6, 8, 9, 10, 11, 12, 14, 15, 16, 17, 18, 20, 21, 22, 23, 24, 26, 28, 29], [[], [0], [0, 1], [0, 1, 2], [0, 1, 2, 3], [0, 1, 2, 3, 4], [0, 1, 2, 3, 4, 5], [0, 1, 2, 3, 4, 5, 6], [0, 1, 2, 3, 4, 5, 6, 7], [0, 1, 2, 3, 4, 5, 6, 7, 8], [0, 1, 2, 3, 4, 5, 6, 7, 8, 9], [0, 1, 2, 3, 4, 5, 6, 7, 8, 9, 10], [0, 1, 2, 3, 4, 5, 6, 7, 8, 9, 10, 11], [0, 1, 2, 3, 4, 5, 6, 7, 8, 9, 10, 11, 12], [0, 1, 2, 3, 4, 5, 6, 7, 8, 9, 10, 11, 12, 13], [0, 1, 2, 3, 4, 5, 6, 7, 8, 9, 10, 11, 12, 13, 14], [0, 1, 2, 3, 4, 5, 6, 7, 8, 9, 10, 11, 12, 13, 14, 15], [0, 1, 2, 3, 4, 5, 6, 7, 8, 9, 10, 11, 12, 13, 14, 15, 16], [0, 1, 2, 3, 4, 5, 6, 7, 8, 9, 10, 11, 12, 13, 14, 15, 16, 17], [0, 1, 2, 3, 4, 5, 6, 7, 8, 9, 10, 11, 12, 13, 14, 15, 16, 17, 18], [0, 1, 2, 3, 4, 5, 6, 7, 8, 9, 10, 11, 12, 13, 14, 15, 16, 17, 18, 19], [0, 1, 2, 3, 4, 5, 6, 7, 8, 9, 10, 11, 12, 13, 14, 15, 16, 17, 18, 19, 20], [0, 1, 2, 3, 4, 5, 6, 7, 8, 9, 10, 11, 12, 13, 14, 15, 16, 17, 18, 19, 20, 21], [0, 1, 2, 3, 4, 5, 6, 7, 8, 9, 10, 11, 12, 13, 14, 15, 16, 17, 18, 19, 20, 21, 22], [0, 1, 2, 3, 4, 5, 6, 7, 8, 9, 10, 11, 12, 13, 14, 15, 16, 17, 18, 19, 20, 21, 22], [0, 1, 2, 3, 4, 5, 6, 7, 8, 9, 10, 11, 12, 13, 14, 15, 16, 17, 18, 19, 20, 21, 22, 23, 24], [0, 1, 2, 3, 4, 5, 6, 7, 8, 9, 10, 11, 12, 13, 14, 15, 16, 17, 18, 19, 20, 21, 22], [0, 1, 2, 3, 4, 5, 6, 7, 8, 9, 10, 11, 12, 13, 14, 15, 16, 17, 18, 19, 20, 21, 22, 23, 24, 25, 26], [0, 1, 2, 3, 4, 5, 6, 7, 8, 9, 10, 11, 12, 13, 14, 15, 16, 17, 18, 19, 20, 21, 22, 23, 24, 25, 26, 27], [0, 1, 2, 3, 4, 5, 6, 7, 8, 9, 10, 11, 12, 13, 14, 15, 16, 17, 18, 19, 20, 21, 22, 23, 24, 25, 26, 27, 28]]) [[0, 1, 2, 3, 4, 5, 6, 7, 8, 9, 10, 11, 12, 13, 14, 15, 16, 17, 18, 19, 20, 21, 22, 23, 24, 26, 25, 27, 28, 29]] (by kernel_rfl) (by kernel_rfl) (NoPanic.seq (NoPanic.block (NoPanic.seq (NoPanic.seq (NoPanic.block (NoPanic.seq (NoPanic.body))))))) ?_
        have hS516 := hS429.drew
        revert hS516
        generalize World.drew w428 = w515
        intro hS516
        refine ⟨⟨hS516.cell 0 rfl 0 rfl, hS516.cell 0 rfl 1 rfl, hS516.cell 0 rfl 2 rfl, hS516.cell 0 rfl 3 rfl, hS516.cell 0 rfl 0 rfl, hS516.cell 0 rfl 1 rfl, hS516.cell 0 rfl 2 rfl, hS516.cell 0 rfl 3 rfl, trivial⟩, forallC ?_ (forallN)⟩
        refine segF 2 [.v (.int .i64 ((rdD p0 x415 z_Tile).N))] [0, 3, 4, 19] [(0, (.slice A_p0 p0.length c_p0)), (3, (.int .i64 x415)), (4, (.pointer (some ⟨g424, 0, none⟩))), (19, (.int .i64 ((rdD p0 x415 z_Tile).N)))] [] [0] [(1, ⟨g424, 0, none⟩, (.int .i64 ((rdD p0 x415 z_Tile).N)))] (fun fb => by kernel_rfl) rfl trivial rfl ?_
        obtain ⟨t517, ht518, hl421⟩ := bind_some hl421
        refine WL.call (some 20) 47 #[(.int .i64 ((rdD p0 x415 z_Tile).N))] (fun fb => by kernel_rfl) (ref01_colour_calls ((rdD p0 x415 z_Tile).N) t517 _ ht518) (fun v w519 hR520 => ?_)
        obtain ⟨rfl, hk_⟩ := hR520
        have hS521 := hS516.keepN hk_
        refine ⟨⟨hS521.cell 0 rfl 1 rfl, hS521.cell 0 rfl 2 rfl, hS521.cell 0 rfl 3 rfl, hS521.cell 0 rfl 0 rfl, hS521.cell 0 rfl 1 rfl, hS521.cell 0 rfl 2 rfl, hS521.cell 0 rfl 3 rfl, trivial⟩, ?_⟩
        refine seg 5 [] [0, 3, 4, 22] [(0, (.slice A_p0 p0.length c_p0)), (3, (.int .i64 x415)), (4, (.pointer (some ⟨g424, 0, none⟩))), (22, (.bool (!t517)))] [] (fun fb => by kernel_rfl) rfl trivial ?_
        obtain ⟨x528, hx529, hl421⟩ := bind_some hl421
        refine WL.cutW (T := Bool) 10 (fun t => [(0, (.slice A_p0 p0.length c_p0)), (3, (.int .i64 x415)), (4, (.pointer (some ⟨g424, 0, none⟩))), (27, (.bool t))]) (fun t w1 => (St NoS w w1 [rowR enc_Tile A_p0 c_p0 p0] [blk g424 (.cells #[(.int .i64 ((rdD p0 x415 z_Tile).N)), (.int .i64 ((rdD p0 x415 z_Tile).E)), (.int .i64 ((rdD p0 x415 z_Tile).S)), (.int .i64 ((rdD p0 x415 z_Tile).W))] 62 (0, 0))] ∧ x528 = t) ∧ CellsOK [] w1) (fun K => ?_) ?_
        ·
          rcases br_some hx529 with ⟨h530, hx529⟩ | ⟨h530, hx529⟩
          ·
            refine WL.setB 22 h530 rfl ?_
            refine seg 10 [] [0, 3, 4, 27] [(0, (.slice A_p0 p0.length c_p0)), (3, (.int .i64 x415)), (4, (.pointer (some ⟨g424, 0, none⟩))), (27, (.bool true))] [] (fun fb => by kernel_rfl) rfl trivial ?_
            injection hx529 with hx529
            exact WL.to K true [0, 3, 4, 27] rfl ⟨⟨(hS521.subR [0]).sub [0] (by decide), hx529.symm⟩, trivial⟩
          refine WL.setB 22 h530 rfl ?_
          refine segF 7 [.v (.int .i64 ((rdD p0 x415 z_Tile).E))] [0, 3, 4, 22, 24] [(0, (.slice A_p0 p0.length c_p0)), (3, (.int .i64 x415)), (4, (.pointer (some ⟨g424, 0, none⟩))), (22, (.bool false)), (24, (.int .i64 ((rdD p0 x415 z_Tile).E)))] [] [1] [(6, ⟨g424, 1, none⟩, (.int .i64 ((rdD p0 x415 z_Tile).E)))] (fun fb => by kernel_rfl) rfl trivial rfl ?_
          obtain ⟨t531, ht532, hx529⟩ := bind_some hx529
          refine WL.call (some 25) 47 #[(.int .i64 ((rdD p0 x415 z_Tile).E))] (fun fb => by kernel_rfl) (ref01_colour_calls ((rdD p0 x415 z_Tile).E) t531 _ ht532) (fun v w533 hR534 => ?_)
          obtain ⟨rfl, hk_⟩ := hR534
          have hS535 := hS521.keepN hk_
          refine ⟨⟨hS535.cell 0 rfl 2 rfl, hS535.cell 0 rfl 3 rfl, hS535.cell 0 rfl 0 rfl, hS535.cell 0 rfl 1 rfl, hS535.cell 0 rfl 2 rfl, hS535.cell 0 rfl 3 rfl, trivial⟩, ?_⟩
          refine seg 10 [] [0, 3, 4, 27] [(0, (.slice A_p0 p0.length c_p0)), (3, (.int .i64 x415)), (4, (.pointer (some ⟨g424, 0, none⟩))), (27, (.bool (!t531)))] [] (fun fb => by kernel_rfl) rfl trivial ?_
          injection hx529 with hx529
          exact WL.to K (!t531) [0, 3, 4, 27] rfl ⟨⟨(hS535.subR [0]).sub [0] (by decide), hx529.symm⟩, trivial⟩
        rintro y536 w538 ⟨⟨hS539, hq537⟩, hF540⟩
        subst hq537
        refine seg 11 [] [0, 3, 4, 28] [(0, (.slice A_p0 p0.length c_p0)), (3, (.int .i64 x415)), (4, (.pointer (some ⟨g424, 0, none⟩))), (28, (.bool x528))] [] (fun fb => by kernel_rfl) rfl trivial ?_
        obtain ⟨x547, hx548, hl421⟩ := bind_some hl421
        refine WL.cutW (T := Bool) 16 (fun t => [(0, (.slice A_p0 p0.length c_p0)), (3, (.int .i64 x415)), (4, (.pointer (some ⟨g424, 0, none⟩))), (33, (.bool t))]) (fun t w1 => (St NoS w w1 [rowR enc_Tile A_p0 c_p0 p0] [blk g424 (.cells #[(.int .i64 ((rdD p0 x415 z_Tile).N)), (.int .i64 ((rdD p0 x415 z_Tile).E)), (.int .i64 ((rdD p0 x415 z_Tile).S)), (.int .i64 ((rdD p0 x415 z_Tile).W))] 62 (0, 0))] ∧ x547 = t) ∧ CellsOK [] w1) (fun K => ?_) ?_
        ·
          rcases br_some hx548 with ⟨h549, hx548⟩ | ⟨h549, hx548⟩
          ·
            refine WL.setB 28 h549 rfl ?_
            refine seg 16 [] [0, 3, 4, 33] [(0, (.slice A_p0 p0.length c_p0)), (3, (.int .i64 x415)), (4, (.pointer (some ⟨g424, 0, none⟩))), (33, (.bool true))] [] (fun fb => by kernel_rfl) rfl trivial ?_
            injection hx548 with hx548
            exact WL.to K true [0, 3, 4, 33] rfl ⟨⟨(hS539.subR [0]).sub [0] (by decide), hx548.symm⟩, trivial⟩
          refine WL.setB 28 h549 rfl ?_
          refine segF 13 [.v (.int .i64 ((rdD p0 x415 z_Tile).S))] [0, 3, 4, 28, 30] [(0, (.slice A_p0 p0.length c_p0)), (3, (.int .i64 x415)), (4, (.pointer (some ⟨g424, 0, none⟩))), (28, (.bool false)), (30, (.int .i64 ((rdD p0 x415 z_Tile).S)))] [] [2] [(12, ⟨g424, 2, none⟩, (.int .i64 ((rdD p0 x415 z_Tile).S)))] (fun fb => by kernel_rfl) rfl trivial rfl ?_
          obtain ⟨t550, ht551, hx548⟩ := bind_some hx548
          refine WL.call (some 31) 47 #[(.int .i64 ((rdD p0 x415 z_Tile).S))] (fun fb => by kernel_rfl) (ref01_colour_calls ((rdD p0 x415 z_Tile).S) t550 _ ht551) (fun v w552 hR553 => ?_)
          obtain ⟨rfl, hk_⟩ := hR553
          have hS554 := hS539.keepN hk_
          refine ⟨⟨hS554.cell 0 rfl 3 rfl, hS554.cell 0 rfl 0 rfl, hS554.cell 0 rfl 1 rfl, hS554.cell 0 rfl 2 rfl, hS554.cell 0 rfl 3 rfl, trivial⟩, ?_⟩
          refine seg 16 [] [0, 3, 4, 33] [(0, (.slice A_p0 p0.length c_p0)), (3, (.int .i64 x415)), (4, (.pointer (some ⟨g424, 0, none⟩))), (33, (.bool (!t550)))] [] (fun fb => by kernel_rfl) rfl trivial ?_
          injection hx548 with hx548
          exact WL.to K (!t550) [0, 3, 4, 33] rfl ⟨⟨(hS554.subR [0]).sub [0] (by decide), hx548.symm⟩, trivial⟩
        rintro y555 w557 ⟨⟨hS558, hq556⟩, hF559⟩
        subst hq556
        refine seg 17 [] [0, 3, 4, 34] [(0, (.slice A_p0 p0.length c_p0)), (3, (.int .i64 x415)), (4, (.pointer (some ⟨g424, 0, none⟩))), (34, (.bool x547))] [] (fun fb => by kernel_rfl) rfl trivial ?_
        obtain ⟨x566, hx567, hl421⟩ := bind_some hl421
        refine WL.cutW (T := Bool) 22 (fun t => [(0, (.slice A_p0 p0.length c_p0)), (3, (.int .i64 x415)), (4, (.pointer (some ⟨g424, 0, none⟩))), (39, (.bool t))]) (fun t w1 => (St NoS w w1 [rowR enc_Tile A_p0 c_p0 p0] [blk g424 (.cells #[(.int .i64 ((rdD p0 x415 z_Tile).N)), (.int .i64 ((rdD p0 x415 z_Tile).E)), (.int .i64 ((rdD p0 x415 z_Tile).S)), (.int .i64 ((rdD p0 x415 z_Tile).W))] 62 (0, 0))] ∧ x566 = t) ∧ CellsOK [] w1) (fun K => ?_) ?_
        ·
          rcases br_some hx567 with ⟨h568, hx567⟩ | ⟨h568, hx567⟩
          ·
            refine WL.setB 34 h568 rfl ?_
            refine seg 22 [] [0, 3, 4, 39] [(0, (.slice A_p0 p0.length c_p0)), (3, (.int .i64 x415)), (4, (.pointer (some ⟨g424, 0, none⟩))), (39, (.bool true))] [] (fun fb => by kernel_rfl) rfl trivial ?_
            injection hx567 with hx567
            exact WL.to K true [0, 3, 4, 39] rfl ⟨⟨(hS558.subR [0]).sub [0] (by decide), hx567.symm⟩, trivial⟩
          refine WL.setB 34 h568 rfl ?_
          refine segF 19 [.v (.int .i64 ((rdD p0 x415 z_Tile).W))] [0, 3, 4, 34, 36] [(0, (.slice A_p0 p0.length c_p0)), (3, (.int .i64 x415)), (4, (.pointer (some ⟨g424, 0, none⟩))), (34, (.bool false)), (36, (.int .i64 ((rdD p0 x415 z_Tile).W)))] [] [3] [(18, ⟨g424, 3, none⟩, (.int .i64 ((rdD p0 x415 z_Tile).W)))] (fun fb => by kernel_rfl) rfl trivial rfl ?_
          obtain ⟨t569, ht570, hx567⟩ := bind_some hx567
          refine WL.call (some 37) 47 #[(.int .i64 ((rdD p0 x415 z_Tile).W))] (fun fb => by kernel_rfl) (ref01_colour_calls ((rdD p0 x415 z_Tile).W) t569 _ ht570) (fun v w571 hR572 => ?_)
          obtain ⟨rfl, hk_⟩ := hR572
          have hS573 := hS558.keepN hk_
          refine ⟨⟨hS573.cell 0 rfl 0 rfl, hS573.cell 0 rfl 1 rfl, hS573.cell 0 rfl 2 rfl, hS573.cell 0 rfl 3 rfl, trivial⟩, ?_⟩
          refine seg 22 [] [0, 3, 4, 39] [(0, (.slice A_p0 p0.length c_p0)), (3, (.int .i64 x415)), (4, (.pointer (some ⟨g424, 0, none⟩))), (39, (.bool (!t569)))] [] (fun fb => by kernel_rfl) rfl trivial ?_
          injection hx567 with hx567
          exact WL.to K (!t569) [0, 3, 4, 39] rfl ⟨⟨(hS573.subR [0]).sub [0] (by decide), hx567.symm⟩, trivial⟩
        rintro y574 w576 ⟨⟨hS577, hq575⟩, hF578⟩
        subst hq575
        refine seg 23 [] [0, 3, 4, 40] [(0, (.slice A_p0 p0.length c_p0)), (3, (.int .i64 x415)), (4, (.pointer (some ⟨g424, 0, none⟩))), (40, (.bool x566))] [] (fun fb => by kernel_rfl) rfl trivial ?_
        obtain ⟨x587, hx588, hl421⟩ := bind_some hl421
        refine WL.cutW (T := Bool) 30 (fun t => [(0, (.slice A_p0 p0.length c_p0)), (3, (.int .i64 x415)), (47, (.bool t))]) (fun t w1 => (St NoS w w1 [rowR enc_Tile A_p0 c_p0 p0] [] ∧ x587 = t) ∧ CellsOK [] w1) (fun K => ?_) ?_
        ·
          rcases br_some hx588 with ⟨h589, hx588⟩ | ⟨h589, hx588⟩
          ·
            refine WL.setB 40 h589 rfl ?_
            refine seg 30 [] [0, 3, 47] [(0, (.slice A_p0 p0.length c_p0)), (3, (.int .i64 x415)), (47, (.bool true))] [] (fun fb => by kernel_rfl) rfl trivial ?_
            injection hx588 with hx588
            exact WL.to K true [0, 3, 47] rfl ⟨⟨(hS577.subR [0]).sub [] (by decide), hx588.symm⟩, trivial⟩
          refine WL.setB 40 h589 rfl ?_
          refine segF 26 [.v (.int .i64 ((rdD p0 x415 z_Tile).N)), .v (.int .i64 ((rdD p0 x415 z_Tile).E)), .v (.int .i64 ((rdD p0 x415 z_Tile).S)), .v (.int .i64 ((rdD p0 x415 z_Tile).W))] [0, 3, 40, 41, 42, 44] [(0, (.slice A_p0 p0.length c_p0)), (3, (.int .i64 x415)), (40, (.bool false)), (41, (.slice A_p0 p0.length c_p0)), (42, (.int .i64 x415)), (44, (.agg #[(.int .i64 ((rdD p0 x415 z_Tile).N)), (.int .i64 ((rdD p0 x415 z_Tile).E)), (.int .i64 ((rdD p0 x415 z_Tile).S)), (.int .i64 ((rdD p0 x415 z_Tile).W))]))] [] [4, 5, 6, 7] [(26, ⟨g424, 0, none⟩, (.int .i64 ((rdD p0 x415 z_Tile).N))), (26, ⟨g424, 1, none⟩, (.int .i64 ((rdD p0 x415 z_Tile).E))), (26, ⟨g424, 2, none⟩, (.int .i64 ((rdD p0 x415 z_Tile).S))), (26, ⟨g424, 3, none⟩, (.int .i64 ((rdD p0 x415 z_Tile).W)))] (fun fb => by kernel_rfl) rfl trivial rfl ?_
          obtain ⟨h590, hx588⟩ := as_some hx588
          refine seg 27 [] [0, 3, 40, 43, 44] [(0, (.slice A_p0 p0.length c_p0)), (3, (.int .i64 x415)), (40, (.bool false)), (43, (.slice (subA A_p0 c_p0 (0 : Int).toNat 4) (x415.toNat - (0 : Int).toNat) (c_p0 - (0 : Int).toNat))), (44, (.agg #[(.int .i64 ((rdD p0 x415 z_Tile).N)), (.int .i64 ((rdD p0 x415 z_Tile).E)), (.int .i64 ((rdD p0 x415 z_Tile).S)), (.int .i64 ((rdD p0 x415 z_Tile).W))]))] [.idx (some ⟨0, 0, none⟩) (0 : Int) (x415.toNat + 1), .idx (some ⟨0, 0, none⟩) x415 (c_p0 + 1)] (fun fb => by kernel_rfl) rfl ⟨cut1 h590.1 h590.2.1, cut2 h590.1 h590.2.1 h590.2.2 (hS577.rd 0).1.2, trivial⟩ ?_
          refine WL.reE [0, 3, 40, 43, 44] [(0, (.slice A_p0 p0.length c_p0)), (3, (.int .i64 x415)), (40, (.bool false)), (43, (.slice (subA A_p0 c_p0 (0 : Int).toNat 4) (x415.toNat - (0 : Int).toNat) (c_p0 - (0 : Int).toNat))), (44, (.agg #[(.int .i64 ((rdD p0 x415 z_Tile).N)), (.int .i64 ((rdD p0 x415 z_Tile).E)), (.int .i64 ((rdD p0 x415 z_Tile).S)), (.int .i64 ((rdD p0 x415 z_Tile).W))]))] [(0, (.slice A_p0 p0.length c_p0)), (3, (.int .i64 x415)), (40, (.bool false)), (43, (.slice (subA A_p0 c_p0 (0 : Int).toNat 4) (cut p0 (0 : Int) x415).length (c_p0 - (0 : Int).toNat))), (44, (.agg #[(.int .i64 ((rdD p0 x415 z_Tile).N)), (.int .i64 ((rdD p0 x415 z_Tile).E)), (.int .i64 ((rdD p0 x415 z_Tile).S)), (.int .i64 ((rdD p0 x415 z_Tile).W))]))] rfl (by rw [cut_length h590.1 h590.2.1 h590.2.2]) ?_
          have hS591 := hS577.cutR 0 rfl h590.1 h590.2.1 h590.2.2
          obtain ⟨t592, ht593, hx588⟩ := bind_some hx588
          refine WL.call (some 45) 48 #[(.slice (subA A_p0 c_p0 (0 : Int).toNat 4) (cut p0 (0 : Int) x415).length (c_p0 - (0 : Int).toNat)), (.agg #[(.int .i64 ((rdD p0 x415 z_Tile).N)), (.int .i64 ((rdD p0 x415 z_Tile).E)), (.int .i64 ((rdD p0 x415 z_Tile).S)), (.int .i64 ((rdD p0 x415 z_Tile).W))])] (fun fb => by kernel_rfl) (ref01_Index_calls _ (cut p0 (0 : Int) x415) (rdD p0 x415 z_Tile) (subA A_p0 c_p0 (0 : Int).toNat 4) (c_p0 - (0 : Int).toNat) t592 _ (hS591.rd 0) ht593) (fun v w594 hR595 => ?_)
          obtain ⟨rfl, hk_⟩ := hR595
          have hS596 := hS591.keepN hk_
          refine ⟨trivial, ?_⟩
          refine seg 30 [] [0, 3, 47] [(0, (.slice A_p0 p0.length c_p0)), (3, (.int .i64 x415)), (47, (.bool (decide (t592 ≥ 0))))] [] (fun fb => by kernel_rfl) rfl trivial ?_
          injection hx588 with hx588
          exact WL.to K (decide (t592 ≥ 0)) [0, 3, 47] rfl ⟨⟨(hS596.subR [1]).sub [] (by decide), hx588.symm⟩, trivial⟩
        rintro y597 w599 ⟨⟨hS600, hq598⟩, hF601⟩
        subst hq598
        refine WL.done rfl ?_
        refine WX.next ?_
        rcases br_some hl421 with ⟨h602, hl421⟩ | ⟨h602, hl421⟩
        · refine WC.condT2 (fun fb => by kernel_rfl) h602 ?_
          refine WC.seq ?_
          refine WC.region ?_
          refine seg 1 [] [2] [(2, (.bool false))] [] (fun fb => by kernel_rfl) rfl trivial ?_
          refine WL.done rfl ?_
          refine WX.next ?_
          refine WC.ret ?_
          injection hl421 with hl421
          subst hl421
          injection hf with hf
          subst hf
          exact WX.blockR (WX.thenR (WX.thenR (WX.blockR (WX.thenR (WX.ret_ [] (.bool false) [] (fun fb => by kernel_rfl) trivial ⟨_, rfl, rfl, hS600.keep⟩)))))
        refine WC.condF2 (fun fb => by kernel_rfl) h602 ?_
        refine WC.skip ?_
        refine WX.blockN (WX.next ?_)
        refine WC.region ?_
        refine seg 3 [] [0, 3] [(0, (.slice A_p0 p0.length c_p0)), (3, (.int .i64 (w64 (x415 + 1))))] [] (fun fb => by kernel_rfl) rfl trivial ?_
        refine WL.done rfl ?_
        exact WX.again k418 (Nat.lt_succ_self _) (w64 (x415 + 1)) [0, 3] rfl ⟨(hS600.subR [0]).sub [] (by decide), hl421⟩
      refine WC.condF2 (fun fb => by kernel_rfl) h422 ?_
      refine WC.exit ?_
      injection hl421 with hl421
      exact WX.thenX (WX.thenX (WX.blockHere (WX.to Kx416 () [] rfl ⟨(hS420.subR [0]).sub [] (by decide), hl421.symm⟩)))
  rintro y606 w603 ⟨hS604, hq605⟩
  subst hq605
  have hf := sum_inr hf
  refine WX.next ?_
  refine WC.seq ?_
  refine WC.region ?_
  refine seg 1 [] [2] [(2, (.bool true))] [] (fun fb => by kernel_rfl) rfl trivial ?_
  refine WL.done rfl ?_
  refine WX.next ?_
  refine WC.ret ?_
  injection hf with hf
  subst hf
  exact WX.ret_ [] (.bool true) [] (fun fb => by kernel_rfl) trivial ⟨_, rfl, rfl, hS604.keep⟩
theorem ref01_Form_calls (p0 : Pattern) (A_p0_Cells : Option Addr) (c_p0_Cells : Nat) (r : Bool) (w : World) (hR0 : RO NoS w (rowR encInt A_p0_Cells c_p0_Cells p0.Cells)) (hf : ref01_Form p0 = some r) :
    CallsR Tryd.prog 33 #[(.agg #[(.int .i64 p0.Width), (.int .i64 p0.Height), (.slice A_p0_Cells p0.Cells.length c_p0_Cells)])] w (fun v w' => v = (.bool r) ∧ Keeps NoS w w') := by
  have hS : St NoS w w [rowR encInt A_p0_Cells c_p0_Cells p0.Cells] [] := St.init (ro_cons hR0 (ro_nil _ _))
  refine enter 40 Tryd.func33 rfl Tryd.ntmps33 rfl ?_
  unfold ref01_Form at hf
  refine WC.seq ?_
  refine WC.region ?_
  refine WL.new hS 1 [] (fun g => (.pointer (some ⟨g, 0, none⟩))) (.cells #[(.int .i64 p0.Width), (.int .i64 p0.Height), (.slice A_p0_Cells p0.Cells.length c_p0_Cells)] 35 (0, 0)) [] (fun fb g => by kernel_rfl) trivial (fun g617 w618 hS619 => ?_)
  refine ⟨trivial, ?_⟩
  refine seg 2 [] [1] [(1, (.pointer (some ⟨g617, 0, none⟩)))] [] (fun fb => by kernel_rfl) rfl trivial ?_
  refine WL.done rfl ?_
  refine WX.next ?_
  refine WC.seq ?_
  refine WC.region ?_
  refine seg 4 [.v (.int .i64 p0.Width)] [1, 6] [(1, (.pointer (some ⟨g617, 0, none⟩))), (6, (.bool (decide (p0.Width ≥ 1))))] [.cell ⟨g617, 0, none⟩ (.int .i64 p0.Width)] (fun fb => by kernel_rfl) rfl ⟨hS619.cell 0 rfl 0 rfl, trivial⟩ ?_
  refine WL.cutV (T := Bool) 8 (fun t => [(10, (.bool t)), (1, (.pointer (some ⟨g617, 0, none⟩)))]) (fun t => t = ((decide (p0.Width ≥ 1)) && (decide (p0.Height ≥ 1)))) (fun K => ?_) ?_
  ·
    rcases Bool.eq_false_or_eq_true (decide (p0.Width ≥ 1)) with h621 | h621
    ·
      refine WL.setB 6 h621 rfl ?_
      refine seg 8 [.v (.int .i64 p0.Height)] [1, 10] [(1, (.pointer (some ⟨g617, 0, none⟩))), (10, (.bool (decide (p0.Height ≥ 1))))] [.cell ⟨g617, 1, none⟩ (.int .i64 p0.Height)] (fun fb => by kernel_rfl) rfl ⟨hS619.cell 0 rfl 1 rfl, trivial⟩ ?_
      exact WL.toV K (decide (p0.Height ≥ 1)) [10, 1] rfl (by first | (rw [h621]; done) | (rw [h621]; rfl))
    refine WL.setB 6 h621 rfl ?_
    refine seg 8 [] [1, 10] [(1, (.pointer (some ⟨g617, 0, none⟩))), (10, (.bool false))] [] (fun fb => by kernel_rfl) rfl trivial ?_
    exact WL.toV K false [10, 1] rfl (by first | (rw [h621]; done) | (rw [h621]; rfl))
  rintro b622 rfl
  refine seg 9 [] [1, 11] [(1, (.pointer (some ⟨g617, 0, none⟩))), (11, (.bool ((decide (p0.Width ≥ 1)) && (decide (p0.Height ≥ 1)))))] [] (fun fb => by kernel_rfl) rfl trivial ?_
  refine WL.cutV (T := Bool) 13 (fun t => [(15, (.bool t)), (1, (.pointer (some ⟨g617, 0, none⟩)))]) (fun t => t = (((decide (p0.Width ≥ 1)) && (decide (p0.Height ≥ 1))) && (decide (p0.Width ≤ 40000)))) (fun K => ?_) ?_
  ·
    rcases Bool.eq_false_or_eq_true ((decide (p0.Width ≥ 1)) && (decide (p0.Height ≥ 1))) with h623 | h623
    ·
      refine WL.setB 11 h623 rfl ?_
      refine seg 13 [.v (.int .i64 p0.Width)] [1, 15] [(1, (.pointer (some ⟨g617, 0, none⟩))), (15, (.bool (decide (p0.Width ≤ 40000))))] [.cell ⟨g617, 0, none⟩ (.int .i64 p0.Width)] (fun fb => by kernel_rfl) rfl ⟨hS619.cell 0 rfl 0 rfl, trivial⟩ ?_
      exact WL.toV K (decide (p0.Width ≤ 40000)) [15, 1] rfl (by first | (rw [h623]; done) | (rw [h623]; rfl))
    refine WL.setB 11 h623 rfl ?_
    refine seg 13 [] [1, 15] [(1, (.pointer (some ⟨g617, 0, none⟩))), (15, (.bool false))] [] (fun fb => by kernel_rfl) rfl trivial ?_
    exact WL.toV K false [15, 1] rfl (by first | (rw [h623]; done) | (rw [h623]; rfl))
  rintro b624 rfl
  refine seg 14 [] [1, 16] [(1, (.pointer (some ⟨g617, 0, none⟩))), (16, (.bool (((decide (p0.Width ≥ 1)) && (decide (p0.Height ≥ 1))) && (decide (p0.Width ≤ 40000)))))] [] (fun fb => by kernel_rfl) rfl trivial ?_
  refine WL.cutV (T := Bool) 18 (fun t => [(20, (.bool t)), (1, (.pointer (some ⟨g617, 0, none⟩)))]) (fun t => t = ((((decide (p0.Width ≥ 1)) && (decide (p0.Height ≥ 1))) && (decide (p0.Width ≤ 40000))) && (decide (p0.Height ≤ 40000)))) (fun K => ?_) ?_
  ·
    rcases Bool.eq_false_or_eq_true (((decide (p0.Width ≥ 1)) && (decide (p0.Height ≥ 1))) && (decide (p0.Width ≤ 40000))) with h625 | h625
    ·
      refine WL.setB 16 h625 rfl ?_
      refine seg 18 [.v (.int .i64 p0.Height)] [1, 20] [(1, (.pointer (some ⟨g617, 0, none⟩))), (20, (.bool (decide (p0.Height ≤ 40000))))] [.cell ⟨g617, 1, none⟩ (.int .i64 p0.Height)] (fun fb => by kernel_rfl) rfl ⟨hS619.cell 0 rfl 1 rfl, trivial⟩ ?_
      exact WL.toV K (decide (p0.Height ≤ 40000)) [20, 1] rfl (by first | (rw [h625]; done) | (rw [h625]; rfl))
    refine WL.setB 16 h625 rfl ?_
    refine seg 18 [] [1, 20] [(1, (.pointer (some ⟨g617, 0, none⟩))), (20, (.bool false))] [] (fun fb => by kernel_rfl) rfl trivial ?_
    exact WL.toV K false [20, 1] rfl (by first | (rw [h625]; done) | (rw [h625]; rfl))
  rintro b626 rfl
  refine seg 19 [] [1, 21] [(1, (.pointer (some ⟨g617, 0, none⟩))), (21, (.bool ((((decide (p0.Width ≥ 1)) && (decide (p0.Height ≥ 1))) && (decide (p0.Width ≤ 40000))) && (decide (p0.Height ≤ 40000)))))] [] (fun fb => by kernel_rfl) rfl trivial ?_
  refine WL.cutV (T := Bool) 26 (fun t => [(28, (.bool t)), (1, (.pointer (some ⟨g617, 0, none⟩)))]) (fun t => t = (((((decide (p0.Width ≥ 1)) && (decide (p0.Height ≥ 1))) && (decide (p0.Width ≤ 40000))) && (decide (p0.Height ≤ 40000))) && (decide (w64 (p0.Width * p0.Height) ≤ 40000)))) (fun K => ?_) ?_
  ·
    rcases Bool.eq_false_or_eq_true ((((decide (p0.Width ≥ 1)) && (decide (p0.Height ≥ 1))) && (decide (p0.Width ≤ 40000))) && (decide (p0.Height ≤ 40000))) with h627 | h627
    ·
      refine WL.setB 21 h627 rfl ?_
      refine seg 26 [.v (.int .i64 p0.Width), .v (.int .i64 p0.Height)] [1, 28] [(1, (.pointer (some ⟨g617, 0, none⟩))), (28, (.bool (decide (w64 (p0.Width * p0.Height) ≤ 40000))))] [.cell ⟨g617, 0, none⟩ (.int .i64 p0.Width), .cell ⟨g617, 1, none⟩ (.int .i64 p0.Height)] (fun fb => by kernel_rfl) rfl ⟨hS619.cell 0 rfl 0 rfl, hS619.cell 0 rfl 1 rfl, trivial⟩ ?_
      exact WL.toV K (decide (w64 (p0.Width * p0.Height) ≤ 40000)) [28, 1] rfl (by first | (rw [h627]; done) | (rw [h627]; rfl))
    refine WL.setB 21 h627 rfl ?_
    refine seg 26 [] [1, 28] [(1, (.pointer (some ⟨g617, 0, none⟩))), (28, (.bool false))] [] (fun fb => by kernel_rfl) rfl trivial ?_
    exact WL.toV K false [28, 1] rfl (by first | (rw [h627]; done) | (rw [h627]; rfl))
  rintro b628 rfl
  refine seg 27 [] [1, 29] [(1, (.pointer (some ⟨g617, 0, none⟩))), (29, (.bool (((((decide (p0.Width ≥ 1)) && (decide (p0.Height ≥ 1))) && (decide (p0.Width ≤ 40000))) && (decide (p0.Height ≤ 40000))) && (decide (w64 (p0.Width * p0.Height) ≤ 40000)))))] [] (fun fb => by kernel_rfl) rfl trivial ?_
  refine WL.cutV (T := Bool) 37 (fun t => [(39, (.bool t))]) (fun t => t = ((((((decide (p0.Width ≥ 1)) && (decide (p0.Height ≥ 1))) && (decide (p0.Width ≤ 40000))) && (decide (p0.Height ≤ 40000))) && (decide (w64 (p0.Width * p0.Height) ≤ 40000))) && ((p0.Cells.length : Int) == (w64 (p0.Width * p0.Height))))) (fun K => ?_) ?_
  ·
    rcases Bool.eq_false_or_eq_true (((((decide (p0.Width ≥ 1)) && (decide (p0.Height ≥ 1))) && (decide (p0.Width ≤ 40000))) && (decide (p0.Height ≤ 40000))) && (decide (w64 (p0.Width * p0.Height) ≤ 40000))) with h629 | h629
    ·
      refine WL.setB 29 h629 rfl ?_
      refine seg 37 [.v (.slice A_p0_Cells p0.Cells.length c_p0_Cells), .v (.int .i64 p0.Width), .v (.int .i64 p0.Height)] [39] [(39, (.bool ((p0.Cells.length : Int) == (w64 (p0.Width * p0.Height)))))] [.cell ⟨g617, 2, none⟩ (.slice A_p0_Cells p0.Cells.length c_p0_Cells), .cell ⟨g617, 0, none⟩ (.int .i64 p0.Width), .cell ⟨g617, 1, none⟩ (.int .i64 p0.Height)] (fun fb => by kernel_rfl) rfl ⟨hS619.cell 0 rfl 2 rfl, hS619.cell 0 rfl 0 rfl, hS619.cell 0 rfl 1 rfl, trivial⟩ ?_
      exact WL.toV K ((p0.Cells.length : Int) == (w64 (p0.Width * p0.Height))) [39] rfl (by first | (rw [h629]; done) | (rw [h629]; rfl))
    refine WL.setB 29 h629 rfl ?_
    refine seg 37 [] [39] [(39, (.bool false))] [] (fun fb => by kernel_rfl) rfl trivial ?_
    exact WL.toV K false [39] rfl (by first | (rw [h629]; done) | (rw [h629]; rfl))
  rintro b630 rfl
  refine seg 38 [] [2] [(2, (.bool ((((((decide (p0.Width ≥ 1)) && (decide (p0.Height ≥ 1))) && (decide (p0.Width ≤ 40000))) && (decide (p0.Height ≤ 40000))) && (decide (w64 (p0.Width * p0.Height) ≤ 40000))) && ((p0.Cells.length : Int) == (w64 (p0.Width * p0.Height))))))] [] (fun fb => by kernel_rfl) rfl trivial ?_
  refine WL.done rfl ?_
  refine WX.next ?_
  refine WC.ret ?_
  injection hf with hf
  subst hf
  exact WX.ret_ [] (.bool ((((((decide (p0.Width ≥ 1)) && (decide (p0.Height ≥ 1))) && (decide (p0.Width ≤ 40000))) && (decide (p0.Height ≤ 40000))) && (decide (w64 (p0.Width * p0.Height) ≤ 40000))) && ((p0.Cells.length : Int) == (w64 (p0.Width * p0.Height))))) [] (fun fb => by kernel_rfl) trivial ⟨_, rfl, rfl, hS619.keep⟩
theorem ref01_Cell_calls (p0 : Pattern) (p1 : Int) (p2 : Int) (A_p0_Cells : Option Addr) (c_p0_Cells : Nat) (r : Int) (w : World) (hR0 : RO NoS w (rowR encInt A_p0_Cells c_p0_Cells p0.Cells)) (hf : ref01_Cell p0 p1 p2 = some r) :
    CallsR Tryd.prog 49 #[(.agg #[(.int .i64 p0.Width), (.int .i64 p0.Height), (.slice A_p0_Cells p0.Cells.length c_p0_Cells)]), (.int .i64 p1), (.int .i64 p2)] w (fun v w' => v = (.int .i64 r) ∧ Keeps NoS w w') := by
  have hS : St NoS w w [rowR encInt A_p0_Cells c_p0_Cells p0.Cells] [] := St.init (ro_cons hR0 (ro_nil _ _))
  refine enter 17 Tryd.func49 rfl Tryd.ntmps49 rfl ?_
  unfold ref01_Cell at hf
  refine WC.seq ?_
  refine WC.region ?_
  refine WL.new hS 3 [] (fun g => (.pointer (some ⟨g, 0, none⟩))) (.cells #[(.int .i64 p0.Width), (.int .i64 p0.Height), (.slice A_p0_Cells p0.Cells.length c_p0_Cells)] 35 (0, 0)) [] (fun fb g => by kernel_rfl) trivial (fun g667 w668 hS669 => ?_)
  refine ⟨trivial, ?_⟩
  refine seg 2 [] [1, 2, 3] [(1, (.int .i64 p1)), (2, (.int .i64 p2)), (3, (.pointer (some ⟨g667, 0, none⟩)))] [] (fun fb => by kernel_rfl) rfl trivial ?_
  refine WL.done rfl ?_
  refine WX.next ?_
  refine WC.seq ?_
  refine WC.region ?_
  refine seg 8 [.v (.slice A_p0_Cells p0.Cells.length c_p0_Cells), .v (.int .i64 p0.Width)] [8, 14] [(8, (.slice A_p0_Cells p0.Cells.length c_p0_Cells)), (14, (.int .i64 (w64 ((w64 (p2 * p0.Width)) + p1))))] [.cell ⟨g667, 2, none⟩ (.slice A_p0_Cells p0.Cells.length c_p0_Cells), .cell ⟨g667, 0, none⟩ (.int .i64 p0.Width)] (fun fb => by kernel_rfl) rfl ⟨hS669.cell 0 rfl 2 rfl, hS669.cell 0 rfl 0 rfl, trivial⟩ ?_
  obtain ⟨h671, hf⟩ := as_some hf
  refine seg 11 [.v (.int .i64 (rdD p0.Cells (w64 ((w64 (p2 * p0.Width)) + p1)) 0))] [6] [(6, (.int .i64 (rdD p0.Cells (w64 ((w64 (p2 * p0.Width)) + p1)) 0)))] [.idx A_p0_Cells (w64 ((w64 (p2 * p0.Width)) + p1)) p0.Cells.length, .cell ((adr A_p0_Cells).add ((w64 ((w64 (p2 * p0.Width)) + p1)).toNat * 1)) (.int .i64 (rdD p0.Cells (w64 ((w64 (p2 * p0.Width)) + p1)) 0))] (fun fb => by kernel_rfl) rfl ⟨rowR.adr (hS669.rd 0).1 h671.1 h671.2, rowR.cell (hS669.rd 0).1 0 h671.1 h671.2 0 rfl, trivial⟩ ?_
  refine WL.done rfl ?_
  refine WX.next ?_
  refine WC.ret ?_
  injection hf with hf
  subst hf
  exact WX.ret_ [] (.int .i64 (rdD p0.Cells (w64 ((w64 (p2 * p0.Width)) + p1)) 0)) [] (fun fb => by kernel_rfl) trivial ⟨_, rfl, rfl, hS669.keep⟩
theorem ref01_Of_calls (k : Nat) (p0 : List Tile) (p1 : Pattern) (A_p0 : Option Addr) (c_p0 : Nat) (A_p1_Cells : Option Addr) (c_p1_Cells : Nat) (r : Bool) (w : World) (hR0 : RO NoS w (rowR enc_Tile A_p0 c_p0 p0)) (hR1 : RO NoS w (rowR encInt A_p1_Cells c_p1_Cells p1.Cells)) (hf : ref01_Of k p0 p1 = some r) :
    CallsR Tryd.prog 46 #[(.slice A_p0 p0.length c_p0), (.agg #[(.int .i64 p1.Width), (.int .i64 p1.Height), (.slice A_p1_Cells p1.Cells.length c_p1_Cells)])] w (fun v w' => v = (.bool r) ∧ Keeps NoS w w') := by
  have hS : St NoS w w [rowR enc_Tile A_p0 c_p0 p0, rowR encInt A_p1_Cells c_p1_Cells p1.Cells] [] := St.init (ro_cons hR0 (ro_cons hR1 (ro_nil _ _)))
  refine enter 94 Tryd.func46 rfl Tryd.ntmps46 rfl ?_
  unfold ref01_Of at hf
  refine WC.seq ?_
  refine WC.region ?_
  refine WL.new hS 3 [] (fun g => (.pointer (some ⟨g, 0, none⟩))) (.cells #[(.int .i64 p1.Width), (.int .i64 p1.Height), (.slice A_p1_Cells p1.Cells.length c_p1_Cells)] 35 (0, 0)) [] (fun fb g => by kernel_rfl) trivial (fun g613 w614 hS615 => ?_)
  refine ⟨trivial, ?_⟩
  refine seg 2 [] [0, 3] [(0, (.slice A_p0 p0.length c_p0)), (3, (.pointer (some ⟨g613, 0, none⟩)))] [] (fun fb => by kernel_rfl) rfl trivial ?_
  refine WL.done rfl ?_
  refine WX.next ?_
  refine WC.seq ?_
  refine WC.seq ?_
  refine WC.region ?_
  refine seg 1 [.v (.int .i64 p1.Width), .v (.int .i64 p1.Height), .v (.slice A_p1_Cells p1.Cells.length c_p1_Cells)] [0, 3, 9] [(0, (.slice A_p0 p0.length c_p0)), (3, (.pointer (some ⟨g613, 0, none⟩))), (9, (.agg #[(.int .i64 p1.Width), (.int .i64 p1.Height), (.slice A_p1_Cells p1.Cells.length c_p1_Cells)]))] [.cell ⟨g613, 0, none⟩ (.int .i64 p1.Width), .cell ⟨g613, 1, none⟩ (.int .i64 p1.Height), .cell ⟨g613, 2, none⟩ (.slice A_p1_Cells p1.Cells.length c_p1_Cells)] (fun fb => by kernel_rfl) rfl ⟨hS615.cell 0 rfl 0 rfl, hS615.cell 0 rfl 1 rfl, hS615.cell 0 rfl 2 rfl, trivial⟩ ?_
  obtain ⟨t631, ht632, hf⟩ := bind_some hf
  refine WL.call (some 10) 33 #[(.agg #[(.int .i64 p1.Width), (.int .i64 p1.Height), (.slice A_p1_Cells p1.Cells.length c_p1_Cells)])] (fun fb => by kernel_rfl) (ref01_Form_calls p1 A_p1_Cells c_p1_Cells t631 _ (hS615.rd 1) ht632) (fun v w633 hR634 => ?_)
  obtain ⟨rfl, hk_⟩ := hR634
  have hS635 := hS615.keepN hk_
  refine ⟨trivial, ?_⟩
  refine seg 3 [] [0, 3, 11] [(0, (.slice A_p0 p0.length c_p0)), (3, (.pointer (some ⟨g613, 0, none⟩))), (11, (.bool (!t631)))] [] (fun fb => by kernel_rfl) rfl trivial ?_
  refine WL.done rfl ?_
  refine WX.next ?_
  rcases br_some hf with ⟨h636, hf⟩ | ⟨h636, hf⟩
  · refine WC.condT2 (fun fb => by kernel_rfl) h636 ?_
    refine WC.seq ?_
    refine WC.region ?_
    refine seg 1 [] [4] [(4, (.bool false))] [] (fun fb => by kernel_rfl) rfl trivial ?_
    refine WL.done rfl ?_
    refine WX.next ?_
    refine WC.ret ?_
    injection hf with hf
    subst hf
    exact WX.thenR (WX.ret_ [] (.bool false) [] (fun fb => by kernel_rfl) trivial ⟨_, rfl, rfl, hS635.keep⟩)
  refine WC.condF2 (fun fb => by kernel_rfl) h636 ?_
  refine WC.skip ?_
  refine WX.next ?_
  refine WC.seq ?_
  refine WC.seq ?_
  refine WC.region ?_
  refine seg 1 [] [0, 3, 5] [(0, (.slice A_p0 p0.length c_p0)), (3, (.pointer (some ⟨g613, 0, none⟩))), (5, (.int .i64 0))] [] (fun fb => by kernel_rfl) rfl trivial ?_
  refine WL.done rfl ?_
  refine WX.next ?_
  obtain ⟨x649, hx650, hf⟩ := bind_some hf
  refine WC.cutN (T := Unit) (fun t => [(0, (.slice A_p0 p0.length c_p0)), (3, (.pointer (some ⟨g613, 0, none⟩)))]) (fun t w1 => St NoS w w1 [rowR enc_Tile A_p0 c_p0 p0, rowR encInt A_p1_Cells c_p1_Cells p1.Cells] [blk g613 (.cells #[(.int .i64 p1.Width), (.int .i64 p1.Height), (.slice A_p1_Cells p1.Cells.length c_p1_Cells)] 35 (0, 0))] ∧ x649 = .inr t) (fun Kx649 => ?_) ?_
  ·
    refine WC.block ?_
    refine WC.loop (T := Int) (fun t => [(0, (.slice A_p0 p0.length c_p0)), (3, (.pointer (some ⟨g613, 0, none⟩))), (5, (.int .i64 t))]) (fun n t w1 => St NoS w w1 [rowR enc_Tile A_p0 c_p0 p0, rowR encInt A_p1_Cells c_p1_Cells p1.Cells] [blk g613 (.cells #[(.int .i64 p1.Width), (.int .i64 p1.Height), (.slice A_p1_Cells p1.Cells.length c_p1_Cells)] 35 (0, 0))] ∧ ref01_Of.l0 n t p0 p1 = some x649) k 0 [0, 3, 5] rfl ⟨(hS635.subR [0, 1]).sub [0] (by decide), hx650⟩ ?_
    rintro k651 x648 w652 ⟨hS653, hl654⟩
    cases k651 with
    | zero => rw [ref01_Of.l0] at hl654; cases hl654
    | succ k651 =>
      rw [ref01_Of.l0] at hl654
      refine WC.seq ?_
      refine WC.seq ?_
      refine WC.region ?_
      refine seg 5 [.v (.slice A_p1_Cells p1.Cells.length c_p1_Cells)] [0, 3, 5, 16] [(0, (.slice A_p0 p0.length c_p0)), (3, (.pointer (some ⟨g613, 0, none⟩))), (5, (.int .i64 x648)), (16, (.bool (decide (x648 < (p1.Cells.length : Int)))))] [.cell ⟨g613, 2, none⟩ (.slice A_p1_Cells p1.Cells.length c_p1_Cells)] (fun fb => by kernel_rfl) rfl ⟨hS653.cell 0 rfl 2 rfl, trivial⟩ ?_
      refine WL.done rfl ?_
      refine WX.next ?_
      rcases br_some hl654 with ⟨h655, hl654⟩ | ⟨h655, hl654⟩
      · refine WC.condT2 (fun fb => by kernel_rfl) h655 ?_
        refine WC.skip ?_
        refine WX.next ?_
        refine WC.seq ?_
        refine WC.block ?_
        refine WC.seq ?_
        refine WC.region ?_
        refine seg 3 [.v (.slice A_p1_Cells p1.Cells.length c_p1_Cells)] [0, 3, 5, 20, 21] [(0, (.slice A_p0 p0.length c_p0)), (3, (.pointer (some ⟨g613, 0, none⟩))), (5, (.int .i64 x648)), (20, (.slice A_p1_Cells p1.Cells.length c_p1_Cells)), (21, (.int .i64 x648))] [.cell ⟨g613, 2, none⟩ (.slice A_p1_Cells p1.Cells.length c_p1_Cells)] (fun fb => by kernel_rfl) rfl ⟨hS653.cell 0 rfl 2 rfl, trivial⟩ ?_
        obtain ⟨h656, hl654⟩ := as_some hl654
        refine seg 7 [.v (.int .i64 (rdD p1.Cells x648 0))] [0, 3, 5, 25] [(0, (.slice A_p0 p0.length c_p0)), (3, (.pointer (some ⟨g613, 0, none⟩))), (5, (.int .i64 x648)), (25, (.bool (decide ((rdD p1.Cells x648 0) < 0))))] [.idx A_p1_Cells x648 p1.Cells.length, .cell ((adr A_p1_Cells).add ((x648).toNat * 1)) (.int .i64 (rdD p1.Cells x648 0))] (fun fb => by kernel_rfl) rfl ⟨rowR.adr (hS653.rd 1).1 h656.1 h656.2, rowR.cell (hS653.rd 1).1 0 h656.1 h656.2 0 rfl, trivial⟩ ?_
        refine WL.cutV (T := Bool) 16 (fun t => [(34, (.bool t)), (0, (.slice A_p0 p0.length c_p0)), (3, (.pointer (some ⟨g613, 0, none⟩))), (5, (.int .i64 x648))]) (fun t => t = ((decide ((rdD p1.Cells x648 0) < 0)) || (decide ((rdD p1.Cells x648 0) ≥ (p0.length : Int))))) (fun K => ?_) ?_
        ·
          rcases Bool.eq_false_or_eq_true (decide ((rdD p1.Cells x648 0) < 0)) with h657 | h657
          ·
            refine WL.setB 25 h657 rfl ?_
            refine seg 16 [] [0, 3, 5, 34] [(0, (.slice A_p0 p0.length c_p0)), (3, (.pointer (some ⟨g613, 0, none⟩))), (5, (.int .i64 x648)), (34, (.bool true))] [] (fun fb => by kernel_rfl) rfl trivial ?_
            exact WL.toV K true [34, 0, 3, 5] rfl (by first | (rw [h657]; done) | (rw [h657]; rfl))
          refine WL.setB 25 h657 rfl ?_
          refine seg 16 [.v (.slice A_p1_Cells p1.Cells.length c_p1_Cells), .v (.int .i64 (rdD p1.Cells x648 0))] [0, 3, 5, 34] [(0, (.slice A_p0 p0.length c_p0)), (3, (.pointer (some ⟨g613, 0, none⟩))), (5, (.int .i64 x648)), (34, (.bool (decide ((rdD p1.Cells x648 0) ≥ (p0.length : Int)))))] [.cell ⟨g613, 2, none⟩ (.slice A_p1_Cells p1.Cells.length c_p1_Cells), .idx A_p1_Cells x648 p1.Cells.length, .cell ((adr A_p1_Cells).add ((x648).toNat * 1)) (.int .i64 (rdD p1.Cells x648 0))] (fun fb => by kernel_rfl) rfl ⟨hS653.cell 0 rfl 2 rfl, rowR.adr (hS653.rd 1).1 h656.1 h656.2, rowR.cell (hS653.rd 1).1 0 h656.1 h656.2 0 rfl, trivial⟩ ?_
          exact WL.toV K (decide ((rdD p1.Cells x648 0) ≥ (p0.length : Int))) [34, 0, 3, 5] rfl (by first | (rw [h657]; done) | (rw [h657]; rfl))
        rintro b658 rfl
        refine WL.done rfl ?_
        refine WX.next ?_
        rcases br_some hl654 with ⟨h659, hl654⟩ | ⟨h659, hl654⟩
        · refine WC.condT2 (fun fb => by kernel_rfl) h659 ?_
          refine WC.seq ?_
          refine WC.region ?_
          refine seg 1 [] [4] [(4, (.bool false))] [] (fun fb => by kernel_rfl) rfl trivial ?_
          refine WL.done rfl ?_
          refine WX.next ?_
          refine WC.ret ?_
          injection hl654 with hl654
          subst hl654
          injection hf with hf
          subst hf
          exact WX.blockR (WX.thenR (WX.thenR (WX.blockR (WX.thenR (WX.ret_ [] (.bool false) [] (fun fb => by kernel_rfl) trivial ⟨_, rfl, rfl, hS653.keep⟩)))))
        refine WC.condF2 (fun fb => by kernel_rfl) h659 ?_
        refine WC.skip ?_
        refine WX.blockN (WX.next ?_)
        refine WC.region ?_
        refine seg 3 [] [0, 3, 5] [(0, (.slice A_p0 p0.length c_p0)), (3, (.pointer (some ⟨g613, 0, none⟩))), (5, (.int .i64 (w64 (x648 + 1))))] [] (fun fb => by kernel_rfl) rfl trivial ?_
        refine WL.done rfl ?_
        exact WX.again k651 (Nat.lt_succ_self _) (w64 (x648 + 1)) [0, 3, 5] rfl ⟨(hS653.subR [0, 1]).sub [0] (by decide), hl654⟩
      refine WC.condF2 (fun fb => by kernel_rfl) h655 ?_
      refine WC.exit ?_
      injection hl654 with hl654
      exact WX.thenX (WX.thenX (WX.blockHere (WX.to Kx649 () [0, 3] rfl ⟨(hS653.subR [0, 1]).sub [0] (by decide), hl654.symm⟩)))
  rintro y663 w660 ⟨hS661, hq662⟩
  subst hq662
  have hf := sum_inr hf
  refine WX.next ?_
  refine WC.seq ?_
  refine WC.seq ?_
  refine WC.region ?_
  refine seg 1 [] [0, 3, 6] [(0, (.slice A_p0 p0.length c_p0)), (3, (.pointer (some ⟨g613, 0, none⟩))), (6, (.int .i64 0))] [] (fun fb => by kernel_rfl) rfl trivial ?_
  refine WL.done rfl ?_
  refine WX.next ?_
  obtain ⟨x2014, hx2015, hf⟩ := bind_some hf
  refine WC.cutN (T := Unit) (fun t => []) (fun t w1 => St NoS w w1 [rowR enc_Tile A_p0 c_p0 p0, rowR encInt A_p1_Cells c_p1_Cells p1.Cells] [] ∧ x2014 = .inr t) (fun Kx2014 => ?_) ?_
  ·
    refine WC.block ?_
    refine WC.loop (T := Int) (fun t => [(0, (.slice A_p0 p0.length c_p0)), (3, (.pointer (some ⟨g613, 0, none⟩))), (6, (.int .i64 t))]) (fun n t w1 => St NoS w w1 [rowR enc_Tile A_p0 c_p0 p0, rowR encInt A_p1_Cells c_p1_Cells p1.Cells] [blk g613 (.cells #[(.int .i64 p1.Width), (.int .i64 p1.Height), (.slice A_p1_Cells p1.Cells.length c_p1_Cells)] 35 (0, 0))] ∧ ref01_Of.l1 n t p0 p1 = some x2014) k 0 [0, 3, 6] rfl ⟨(hS661.subR [0, 1]).sub [0] (by decide), hx2015⟩ ?_
    rintro k2016 x2013 w2017 ⟨hS2018, hl2019⟩
    cases k2016 with
    | zero => rw [ref01_Of.l1] at hl2019; cases hl2019
    | succ k2016 =>
      rw [ref01_Of.l1] at hl2019
      refine WC.seq ?_
      refine WC.seq ?_
      refine WC.region ?_
      refine seg 4 [.v (.int .i64 p1.Height)] [0, 3, 6, 38] [(0, (.slice A_p0 p0.length c_p0)), (3, (.pointer (some ⟨g613, 0, none⟩))), (6, (.int .i64 x2013)), (38, (.bool (decide (x2013 < p1.Height))))] [.cell ⟨g613, 1, none⟩ (.int .i64 p1.Height)] (fun fb => by kernel_rfl) rfl ⟨hS2018.cell 0 rfl 1 rfl, trivial⟩ ?_
      refine WL.done rfl ?_
      refine WX.next ?_
      rcases br_some hl2019 with ⟨h2020, hl2019⟩ | ⟨h2020, hl2019⟩
      · refine WC.condT2 (fun fb => by kernel_rfl) h2020 ?_
        refine WC.skip ?_
        refine WX.next ?_
        refine WC.seq ?_
        refine WC.block ?_
        refine WC.seq ?_
        refine WC.region ?_
        refine seg 1 [] [0, 3, 6, 7] [(0, (.slice A_p0 p0.length c_p0)), (3, (.pointer (some ⟨g613, 0, none⟩))), (6, (.int .i64 x2013)), (7, (.int .i64 0))] [] (fun fb => by kernel_rfl) rfl trivial ?_
        refine WL.done rfl ?_
        refine WX.next ?_
        obtain ⟨x2461, hx2462, hl2019⟩ := bind_some hl2019
        refine WC.cutN (T := Unit) (fun t => [(0, (.slice A_p0 p0.length c_p0)), (3, (.pointer (some ⟨g613, 0, none⟩))), (6, (.int .i64 x2013))]) (fun t w1 => St NoS w w1 [rowR enc_Tile A_p0 c_p0 p0, rowR encInt A_p1_Cells c_p1_Cells p1.Cells] [blk g613 (.cells #[(.int .i64 p1.Width), (.int .i64 p1.Height), (.slice A_p1_Cells p1.Cells.length c_p1_Cells)] 35 (0, 0))] ∧ x2461 = .inr t) (fun Kx2461 => ?_) ?_
        ·
          refine WC.block ?_
          refine WC.loop (T := Int) (fun t => [(0, (.slice A_p0 p0.length c_p0)), (3, (.pointer (some ⟨g613, 0, none⟩))), (6, (.int .i64 x2013)), (7, (.int .i64 t))]) (fun n t w1 => St NoS w w1 [rowR enc_Tile A_p0 c_p0 p0, rowR encInt A_p1_Cells c_p1_Cells p1.Cells] [blk g613 (.cells #[(.int .i64 p1.Width), (.int .i64 p1.Height), (.slice A_p1_Cells p1.Cells.length c_p1_Cells)] 35 (0, 0))] ∧ ref01_Of.l2 n t p0 p1 x2013 = some x2461) k2016 0 [0, 3, 6, 7] rfl ⟨(hS2018.subR [0, 1]).sub [0] (by decide), hx2462⟩ ?_
          rintro k2463 x2460 w2464 ⟨hS2465, hl2466⟩
          cases k2463 with
          | zero => rw [ref01_Of.l2] at hl2466; cases hl2466
          | succ k2463 =>
            rw [ref01_Of.l2] at hl2466
            refine WC.seq ?_
            refine WC.seq ?_
            refine WC.region ?_
            refine seg 4 [.v (.int .i64 p1.Width)] [0, 3, 6, 7, 44] [(0, (.slice A_p0 p0.length c_p0)), (3, (.pointer (some ⟨g613, 0, none⟩))), (6, (.int .i64 x2013)), (7, (.int .i64 x2460)), (44, (.bool (decide (x2460 < p1.Width))))] [.cell ⟨g613, 0, none⟩ (.int .i64 p1.Width)] (fun fb => by kernel_rfl) rfl ⟨hS2465.cell 0 rfl 0 rfl, trivial⟩ ?_
            refine WL.done rfl ?_
            refine WX.next ?_
            rcases br_some hl2466 with ⟨h2467, hl2466⟩ | ⟨h2467, hl2466⟩
            · refine WC.condT2 (fun fb => by kernel_rfl) h2467 ?_
              refine WC.skip ?_
              refine WX.next ?_
              refine WC.seq ?_
              refine WC.block ?_
              refine WC.seq ?_
              refine WC.region ?_
              refine seg 4 [.v (.int .i64 p1.Width), .v (.int .i64 p1.Height), .v (.slice A_p1_Cells p1.Cells.length c_p1_Cells)] [0, 3, 6, 7, 47, 48, 49, 50] [(0, (.slice A_p0 p0.length c_p0)), (3, (.pointer (some ⟨g613, 0, none⟩))), (6, (.int .i64 x2013)), (7, (.int .i64 x2460)), (47, (.slice A_p0 p0.length c_p0)), (48, (.agg #[(.int .i64 p1.Width), (.int .i64 p1.Height), (.slice A_p1_Cells p1.Cells.length c_p1_Cells)])), (49, (.int .i64 x2460)), (50, (.int .i64 x2013))] [.cell ⟨g613, 0, none⟩ (.int .i64 p1.Width), .cell ⟨g613, 1, none⟩ (.int .i64 p1.Height), .cell ⟨g613, 2, none⟩ (.slice A_p1_Cells p1.Cells.length c_p1_Cells)] (fun fb => by kernel_rfl) rfl ⟨hS2465.cell 0 rfl 0 rfl, hS2465.cell 0 rfl 1 rfl, hS2465.cell 0 rfl 2 rfl, trivial⟩ ?_
              obtain ⟨t2468, ht2469, hl2466⟩ := bind_some hl2466
              refine WL.call (some 51) 49 #[(.agg #[(.int .i64 p1.Width), (.int .i64 p1.Height), (.slice A_p1_Cells p1.Cells.length c_p1_Cells)]), (.int .i64 x2460), (.int .i64 x2013)] (fun fb => by kernel_rfl) (ref01_Cell_calls p1 x2460 x2013 A_p1_Cells c_p1_Cells t2468 _ (hS2465.rd 1) ht2469) (fun v w2470 hR2471 => ?_)
              obtain ⟨rfl, hk_⟩ := hR2471
              have hS2472 := hS2465.keepN hk_
              refine ⟨trivial, ?_⟩
              obtain ⟨h2473, hl2466⟩ := as_some hl2466
              refine seg 7 [.v (.int .i64 ((rdD p0 t2468 z_Tile).N)), .v (.int .i64 ((rdD p0 t2468 z_Tile).E)), .v (.int .i64 ((rdD p0 t2468 z_Tile).S)), .v (.int .i64 ((rdD p0 t2468 z_Tile).W))] [0, 3, 6, 7, 53] [(0, (.slice A_p0 p0.length c_p0)), (3, (.pointer (some ⟨g613, 0, none⟩))), (6, (.int .i64 x2013)), (7, (.int .i64 x2460)), (53, (.agg #[(.int .i64 ((rdD p0 t2468 z_Tile).N)), (.int .i64 ((rdD p0 t2468 z_Tile).E)), (.int .i64 ((rdD p0 t2468 z_Tile).S)), (.int .i64 ((rdD p0 t2468 z_Tile).W))]))] [.idx A_p0 t2468 p0.length, .cell ((adr A_p0).add ((t2468).toNat * 4)) (.int .i64 ((rdD p0 t2468 z_Tile).N)), .cell (((adr A_p0).add ((t2468).toNat * 4)).add 1) (.int .i64 ((rdD p0 t2468 z_Tile).E)), .cell (((adr A_p0).add ((t2468).toNat * 4)).add 2) (.int .i64 ((rdD p0 t2468 z_Tile).S)), .cell (((adr A_p0).add ((t2468).toNat * 4)).add 3) (.int .i64 ((rdD p0 t2468 z_Tile).W))] (fun fb => by kernel_rfl) rfl ⟨rowR.adr (hS2472.rd 0).1 h2473.1 h2473.2, rowR.cell (hS2472.rd 0).1 z_Tile h2473.1 h2473.2 0 rfl, rowR.cell (hS2472.rd 0).1 z_Tile h2473.1 h2473.2 1 rfl, rowR.cell (hS2472.rd 0).1 z_Tile h2473.1 h2473.2 2 rfl, rowR.cell (hS2472.rd 0).1 z_Tile h2473.1 h2473.2 3 rfl, trivial⟩ ?_
              refine WL.new hS2472 8 [] (fun g => (.pointer (some ⟨g, 0, none⟩))) (.cells #[(.int .i64 0), (.int .i64 0), (.int .i64 0), (.int .i64 0)] 62 (0, 0)) [] (fun fb g => by kernel_rfl) trivial (fun g2474 w2475 hS2476 => ?_)
              refine ⟨trivial, ?_⟩
              refine WL.store hS2476 0 rfl [(0, (.int .i64 ((rdD p0 t2468 z_Tile).N))), (1, (.int .i64 ((rdD p0 t2468 z_Tile).E))), (2, (.int .i64 ((rdD p0 t2468 z_Tile).S))), (3, (.int .i64 ((rdD p0 t2468 z_Tile).W)))] #[(.int .i64 ((rdD p0 t2468 z_Tile).N)), (.int .i64 ((rdD p0 t2468 z_Tile).E)), (.int .i64 ((rdD p0 t2468 z_Tile).S)), (.int .i64 ((rdD p0 t2468 z_Tile).W))] (fun fb => by kernel_rfl) (by kernel_rfl) rfl [1] (by decide) (by decide) (fun w2478 hS2479 => ?_)
              refine ⟨trivial, ?_⟩
              refine WL.done rfl ?_
              refine WX.next ?_
              refine WC.seq ?_
              obtain ⟨x2580, hx2581, hl2466⟩ := bind_some hl2466
              refine WC.cutN (T := Bool) (fun t => [(0, (.slice A_p0 p0.length c_p0)), (3, (.pointer (some ⟨g613, 0, none⟩))), (6, (.int .i64 x2013)), (7, (.int .i64 x2460)), (93, (.bool t))]) (fun t w1 => St NoS w w1 [rowR enc_Tile A_p0 c_p0 p0, rowR encInt A_p1_Cells c_p1_Cells p1.Cells] [blk g613 (.cells #[(.int .i64 p1.Width), (.int .i64 p1.Height), (.slice A_p1_Cells p1.Cells.length c_p1_Cells)] 35 (0, 0))] ∧ x2580 = t) (fun Kx2580 => ?_) ?_
              ·
                rcases br_some hx2581 with ⟨h2582, hx2581⟩ | ⟨h2582, hx2581⟩
                ·
                  rcases br_some hx2581 with ⟨h2589, hx2581⟩ | ⟨h2589, hx2581⟩
                  ·
                    refine WC.regionD ([(3, ⟨g613, 0, none⟩, (.int .i64 p1.Width)), (7, ⟨g2474, 1, none⟩, (.int .i64 ((rdD p0 t2468 z_Tile).E))), (9, ⟨g613, 0, none⟩, (.int .i64 p1.Width)), (9, ⟨g613, 1, none⟩, (.int .i64 p1.Height)), (9, ⟨g613, 2, none⟩, (.slice A_p1_Cells p1.Cells.length c_p1_Cells)), (23, ⟨g613, 1, none⟩, (.int .i64 p1.Height)), (27, ⟨g2474, 0, none⟩, (.int .i64 ((rdD p0 t2468 z_Tile).N))), (29, ⟨g613, 0, none⟩, (.int .i64 p1.Width)), (29, ⟨g613, 1, none⟩, (.int .i64 p1.Height)), (29, ⟨g613, 2, none⟩, (.slice A_p1_Cells p1.Cells.length c_p1_Cells))], [0, 1, 2, 3, 4, 5, 6, 7, 8, 9, 10, 11, 12, 14, 15, 17, 18, 19, 20, 21, 22, 23, 24, 25, 26, 27, 28, 29, 30, 31, 32, 34, 35, 37, 38, 39], [[], [0], [], [2], [0, 1, 2, 3], [0, 1, 2, 3, 4], [0, 1, 2, 3, 4, 5], [0, 1, 2, 3, 4, 5, 6], [0, 1, 2, 3, 4, 5], [0, 1, 2, 3, 4, 5], [0, 1, 2, 3, 4, 5], [0, 1, 2, 3, 4, 5, 10], [0, 1, 2, 3, 4, 5], [0, 1, 2, 3, 4, 5, 9, 10, 11, 12], [0, 1, 2, 3, 4, 5, 8, 9, 10, 11, 12, 13], [0, 1, 2, 3, 4, 5, 8, 9, 10, 11, 12, 13, 14], [0, 1, 2, 3, 4, 5, 8, 9, 10, 11, 12, 13, 14, 15], [0, 1, 2, 3, 4, 5, 6, 7, 8, 9, 10, 11, 12, 13, 14, 15, 16], [0, 1, 2, 3, 4, 5, 6, 7, 8, 9, 10, 11, 12, 13, 14, 15, 16, 17], [0, 1, 2, 3, 4, 5, 6, 7, 8, 9, 10, 11, 12, 13, 14, 15, 16, 17, 18], [0, 1, 2, 3, 4, 5, 6, 7, 8, 9, 10, 11, 12, 13, 14, 15, 16, 17, 18, 19], [0, 1, 2, 3, 4, 5, 6, 7, 8, 9, 10, 11, 12, 13, 14, 15, 16, 17, 18, 19, 20], [0, 1, 2, 3, 4, 5, 6, 7, 8, 9, 10, 11, 12, 13, 14, 15, 16, 17, 18, 19], [0, 1, 2, 3, 4, 5, 6, 7, 8, 9, 10, 11, 12, 13, 14, 15, 16, 17, 18, 19, 22], [0, 1, 2, 3, 4, 5, 6, 7, 8, 9, 10, 11, 12, 13, 14, 15, 16, 17, 18, 19, 20, 21, 22, 23], [0, 1, 2, 3, 4, 5, 6, 7, 8, 9, 10, 11, 12, 13, 14, 15, 16, 17, 18, 19, 20, 21, 22, 23, 24], [0, 1, 2, 3, 4, 5, 6, 7, 8, 9, 10, 11, 12, 13, 14, 15, 16, 17, 18, 19, 20, 21, 22, 23, 24, 25], [0, 1, 2, 3, 4, 5, 6, 7, 8, 9, 10, 11, 12, 13, 14, 15, 16, 17, 18, 19, 20, 21, 22, 23, 24, 25, 26], [0, 1, 2, 3, 4, 5, 6, 7, 8, 9, 10, 11, 12, 13, 14, 15, 16, 17, 18, 19, 20, 21, 22, 23, 24, 25], [0, 1, 2, 3, 4, 5, 6, 7, 8, 9, 10, 11, 12, 13, 14, 15, 16, 17, 18, 19, 20, 21, 22, 23, 24, 25], [0, 1, 2, 3, 4, 5, 6, 7, 8, 9, 10, 11, 12, 13, 14, 15, 16, 17, 18, 19, 20, 21, 22, 23, 24, 25], [0, 1, 2, 3, 4, 5, 6, 7, 8, 9, 10, 11, 12, 13, 14, 15, 16, 17, 18, 19, 20, 21, 22, 23, 24, 25], [0, 1, 2, 3, 4, 5, 6, 7, 8, 9, 10, 11, 12, 13, 14, 15, 16, 17, 18, 19, 20, 21, 22, 23, 24, 25, 31], [0, 1, 2, 3, 4, 5, 6, 7, 8, 9, 10, 11, 12, 13, 14, 15, 16, 17, 18, 19, 20, 21, 22, 23, 24, 25, 29, 30, 31, 32], [0, 1, 2, 3, 4, 5, 6, 7, 8, 9, 10, 11, 12, 13, 14, 15, 16, 17, 18, 19, 20, 21, 22, 23, 24, 25, 28, 29, 30, 31, 32, 33], [0, 1, 2, 3, 4, 5, 6, 7, 8, 9, 10, 11, 12, 13, 14, 15, 16, 17, 18, 19, 20, 21, 22, 23, 24, 25, 28, 29, 30, 31, 32, 33, 34], [0, 1, 2, 3, 4, 5, 6, 7, 8, 9, 10, 11, 12, 13, 14, 15, 16, 17, 18, 19, 20, 21, 22, 23, 24, 25, 28, 29, 30, 31, 32, 33, 34, 35], [0, 1, 2, 3, 4, 5, 6, 7, 8, 9, 10, 11, 12, 13, 14, 15, 16, 17, 18, 19, 20, 21, 22, 23, 24, 25, 26, 27, 28, 29, 30, 31, 32, 33, 34, 35, 36], [0, 1, 2, 3, 4, 5, 6, 7, 8, 9, 10, 11, 12, 13, 14, 15, 16, 17, 18, 19, 20, 21, 22, 23, 24, 25, 26, 27, 28, 29, 30, 31, 32, 33, 34, 35, 36, 37], [0, 1, 2, 3, 4, 5, 6, 7, 8, 9, 10, 11, 12, 13, 14, 15, 16, 17, 18, 19, 20, 21, 22, 23, 24, 25, 26, 27, 28, 29, 30, 31, 32, 33, 34, 35, 36, 37, 38]]) [[0, 1, 2, 3, 4, 5, 6, 7, 8, 9, 10, 11, 12, 13, 14, 15, 16, 17, 18, 19, 20, 21, 22, 23, 24, 25, 26, 27, 28, 29, 30, 31, 32, 33, 34, 35, 36, 37, 38, 39]] (by kernel_rfl) (by kernel_rfl) (NoPanic.seq (NoPanic.block (NoPanic.seq (NoPanic.seq (NoPanic.block (NoPanic.block (NoPanic.seq (NoPanic.seq (NoPanic.block (NoPanic.seq (NoPanic.body))))))))))) ?_
                    have hS2618 := hS2479.drew
                    revert hS2618
                    generalize World.drew w2478 = w2617
                    intro hS2618
                    refine ⟨⟨hS2618.cell 1 rfl 0 rfl, hS2618.cell 0 rfl 1 rfl, hS2618.cell 1 rfl 0 rfl, hS2618.cell 1 rfl 1 rfl, hS2618.cell 1 rfl 2 rfl, hS2618.cell 1 rfl 1 rfl, hS2618.cell 0 rfl 0 rfl, hS2618.cell 1 rfl 0 rfl, hS2618.cell 1 rfl 1 rfl, hS2618.cell 1 rfl 2 rfl, trivial⟩, forallC ?_ (forallN)⟩
                    refine segF 6 [.v (.int .i64 p1.Width)] [0, 3, 6, 7, 8, 59] [(0, (.slice A_p0 p0.length c_p0)), (3, (.pointer (some ⟨g613, 0, none⟩))), (6, (.int .i64 x2013)), (7, (.int .i64 x2460)), (8, (.pointer (some ⟨g2474, 0, none⟩))), (59, (.bool (decide (w64 (x2460 + 1) < p1.Width))))] [] [0] [(3, ⟨g613, 0, none⟩, (.int .i64 p1.Width))] (fun fb => by kernel_rfl) rfl trivial rfl ?_
                    refine WL.setB 59 h2582 rfl ?_
                    refine segF 13 [.v (.int .i64 ((rdD p0 t2468 z_Tile).E)), .v (.int .i64 p1.Width), .v (.int .i64 p1.Height), .v (.slice A_p1_Cells p1.Cells.length c_p1_Cells)] [0, 3, 6, 7, 8, 59, 61, 62, 63, 65, 66] [(0, (.slice A_p0 p0.length c_p0)), (3, (.pointer (some ⟨g613, 0, none⟩))), (6, (.int .i64 x2013)), (7, (.int .i64 x2460)), (8, (.pointer (some ⟨g2474, 0, none⟩))), (59, (.bool true)), (61, (.int .i64 ((rdD p0 t2468 z_Tile).E))), (62, (.slice A_p0 p0.length c_p0)), (63, (.agg #[(.int .i64 p1.Width), (.int .i64 p1.Height), (.slice A_p1_Cells p1.Cells.length c_p1_Cells)])), (65, (.int .i64 (w64 (x2460 + 1)))), (66, (.int .i64 x2013))] [] [1, 2, 3, 4] [(7, ⟨g2474, 1, none⟩, (.int .i64 ((rdD p0 t2468 z_Tile).E))), (9, ⟨g613, 0, none⟩, (.int .i64 p1.Width)), (9, ⟨g613, 1, none⟩, (.int .i64 p1.Height)), (9, ⟨g613, 2, none⟩, (.slice A_p1_Cells p1.Cells.length c_p1_Cells))] (fun fb => by kernel_rfl) rfl trivial rfl ?_
                    obtain ⟨t2619, ht2620, hx2581⟩ := bind_some hx2581
                    refine WL.call (some 67) 49 #[(.agg #[(.int .i64 p1.Width), (.int .i64 p1.Height), (.slice A_p1_Cells p1.Cells.length c_p1_Cells)]), (.int .i64 (w64 (x2460 + 1))), (.int .i64 x2013)] (fun fb => by kernel_rfl) (ref01_Cell_calls p1 (w64 (x2460 + 1)) x2013 A_p1_Cells c_p1_Cells t2619 _ (hS2618.rd 1) ht2620) (fun v w2621 hR2622 => ?_)
                    obtain ⟨rfl, hk_⟩ := hR2622
                    have hS2623 := hS2618.keepN hk_
                    refine ⟨⟨hS2623.cell 0 rfl 1 rfl, hS2623.cell 1 rfl 1 rfl, hS2623.cell 0 rfl 0 rfl, hS2623.cell 1 rfl 0 rfl, hS2623.cell 1 rfl 1 rfl, hS2623.cell 1 rfl 2 rfl, trivial⟩, ?_⟩
                    obtain ⟨h2624, hx2581⟩ := as_some hx2581
                    refine seg 20 [.v (.int .i64 ((rdD p0 t2619 z_Tile).W))] [0, 3, 6, 7, 8, 73] [(0, (.slice A_p0 p0.length c_p0)), (3, (.pointer (some ⟨g613, 0, none⟩))), (6, (.int .i64 x2013)), (7, (.int .i64 x2460)), (8, (.pointer (some ⟨g2474, 0, none⟩))), (73, (.bool (((rdD p0 t2468 z_Tile).E) != ((rdD p0 t2619 z_Tile).W))))] [.idx A_p0 t2619 p0.length, .cell (((adr A_p0).add ((t2619).toNat * 4)).add 3) (.int .i64 ((rdD p0 t2619 z_Tile).W))] (fun fb => by kernel_rfl) rfl ⟨rowR.adr (hS2623.rd 0).1 h2624.1 h2624.2, rowR.cell (hS2623.rd 0).1 z_Tile h2624.1 h2624.2 3 rfl, trivial⟩ ?_
                    obtain ⟨x2632, hx2633, hx2581⟩ := bind_some hx2581
                    refine WL.cutW (T := Bool) 40 (fun t => [(0, (.slice A_p0 p0.length c_p0)), (3, (.pointer (some ⟨g613, 0, none⟩))), (6, (.int .i64 x2013)), (7, (.int .i64 x2460)), (93, (.bool t))]) (fun t w1 => (St NoS w w1 [rowR enc_Tile A_p0 c_p0 p0, rowR encInt A_p1_Cells c_p1_Cells p1.Cells] [blk g613 (.cells #[(.int .i64 p1.Width), (.int .i64 p1.Height), (.slice A_p1_Cells p1.Cells.length c_p1_Cells)] 35 (0, 0))] ∧ x2632 = t) ∧ CellsOK [] w1) (fun K => ?_) ?_
                    ·
                      rcases br_some hx2633 with ⟨h2634, hx2633⟩ | ⟨h2634, hx2633⟩
                      ·
                        refine WL.setB 73 h2634 rfl ?_
                        refine seg 40 [] [0, 3, 6, 7, 93] [(0, (.slice A_p0 p0.length c_p0)), (3, (.pointer (some ⟨g613, 0, none⟩))), (6, (.int .i64 x2013)), (7, (.int .i64 x2460)), (93, (.bool true))] [] (fun fb => by kernel_rfl) rfl trivial ?_
                        injection hx2633 with hx2633
                        exact WL.to K true [0, 3, 6, 7, 93] rfl ⟨⟨(hS2623.subR [0, 1]).sub [1] (by decide), hx2633.symm⟩, trivial⟩
                      refine WL.setB 73 h2634 rfl ?_
                      refine segF 26 [.v (.int .i64 p1.Height)] [0, 3, 6, 7, 8, 73, 79] [(0, (.slice A_p0 p0.length c_p0)), (3, (.pointer (some ⟨g613, 0, none⟩))), (6, (.int .i64 x2013)), (7, (.int .i64 x2460)), (8, (.pointer (some ⟨g2474, 0, none⟩))), (73, (.bool false)), (79, (.bool (decide (w64 (x2013 + 1) < p1.Height))))] [] [5] [(23, ⟨g613, 1, none⟩, (.int .i64 p1.Height))] (fun fb => by kernel_rfl) rfl trivial rfl ?_
                      refine WL.setB 79 h2589 rfl ?_
                      refine segF 33 [.v (.int .i64 ((rdD p0 t2468 z_Tile).N)), .v (.int .i64 p1.Width), .v (.int .i64 p1.Height), .v (.slice A_p1_Cells p1.Cells.length c_p1_Cells)] [0, 3, 6, 7, 73, 79, 81, 82, 83, 84, 86] [(0, (.slice A_p0 p0.length c_p0)), (3, (.pointer (some ⟨g613, 0, none⟩))), (6, (.int .i64 x2013)), (7, (.int .i64 x2460)), (73, (.bool false)), (79, (.bool true)), (81, (.int .i64 ((rdD p0 t2468 z_Tile).N))), (82, (.slice A_p0 p0.length c_p0)), (83, (.agg #[(.int .i64 p1.Width), (.int .i64 p1.Height), (.slice A_p1_Cells p1.Cells.length c_p1_Cells)])), (84, (.int .i64 x2460)), (86, (.int .i64 (w64 (x2013 + 1))))] [] [6, 7, 8, 9] [(27, ⟨g2474, 0, none⟩, (.int .i64 ((rdD p0 t2468 z_Tile).N))), (29, ⟨g613, 0, none⟩, (.int .i64 p1.Width)), (29, ⟨g613, 1, none⟩, (.int .i64 p1.Height)), (29, ⟨g613, 2, none⟩, (.slice A_p1_Cells p1.Cells.length c_p1_Cells))] (fun fb => by kernel_rfl) rfl trivial rfl ?_
                      obtain ⟨t2635, ht2636, hx2633⟩ := bind_some hx2633
                      refine WL.call (some 87) 49 #[(.agg #[(.int .i64 p1.Width), (.int .i64 p1.Height), (.slice A_p1_Cells p1.Cells.length c_p1_Cells)]), (.int .i64 x2460), (.int .i64 (w64 (x2013 + 1)))] (fun fb => by kernel_rfl) (ref01_Cell_calls p1 x2460 (w64 (x2013 + 1)) A_p1_Cells c_p1_Cells t2635 _ (hS2623.rd 1) ht2636) (fun v w2637 hR2638 => ?_)
                      obtain ⟨rfl, hk_⟩ := hR2638
                      have hS2639 := hS2623.keepN hk_
                      refine ⟨⟨hS2639.cell 0 rfl 0 rfl, trivial⟩, ?_⟩
                      obtain ⟨h2640, hx2633⟩ := as_some hx2633
                      refine seg 40 [.v (.int .i64 ((rdD p0 t2635 z_Tile).S))] [0, 3, 6, 7, 93] [(0, (.slice A_p0 p0.length c_p0)), (3, (.pointer (some ⟨g613, 0, none⟩))), (6, (.int .i64 x2013)), (7, (.int .i64 x2460)), (93, (.bool (((rdD p0 t2468 z_Tile).N) != ((rdD p0 t2635 z_Tile).S))))] [.idx A_p0 t2635 p0.length, .cell (((adr A_p0).add ((t2635).toNat * 4)).add 2) (.int .i64 ((rdD p0 t2635 z_Tile).S))] (fun fb => by kernel_rfl) rfl ⟨rowR.adr (hS2639.rd 0).1 h2640.1 h2640.2, rowR.cell (hS2639.rd 0).1 z_Tile h2640.1 h2640.2 2 rfl, trivial⟩ ?_
                      injection hx2633 with hx2633
                      exact WL.to K (((rdD p0 t2468 z_Tile).N) != ((rdD p0 t2635 z_Tile).S)) [0, 3, 6, 7, 93] rfl ⟨⟨(hS2639.subR [0, 1]).sub [1] (by decide), hx2633.symm⟩, trivial⟩
                    rintro y2641 w2643 ⟨⟨hS2644, hq2642⟩, hF2645⟩
                    subst hq2642
                    refine WL.done rfl ?_
                    injection hx2581 with hx2581
                    exact WX.to Kx2580 x2632 [0, 3, 6, 7, 93] rfl ⟨(hS2644.subR [0, 1]).sub [0] (by decide), hx2581.symm⟩
                  refine WC.regionD ([(3, ⟨g613, 0, none⟩, (.int .i64 p1.Width)), (7, ⟨g2474, 1, none⟩, (.int .i64 ((rdD p0 t2468 z_Tile).E))), (9, ⟨g613, 0, none⟩, (.int .i64 p1.Width)), (9, ⟨g613, 1, none⟩, (.int .i64 p1.Height)), (9, ⟨g613, 2, none⟩, (.slice A_p1_Cells p1.Cells.length c_p1_Cells)), (23, ⟨g613, 1, none⟩, (.int .i64 p1.Height)), (27, ⟨g2474, 0, none⟩, (.int .i64 ((rdD p0 t2468 z_Tile).N))), (29, ⟨g613, 0, none⟩, (.int .i64 p1.Width)), (29, ⟨g613, 1, none⟩, (.int .i64 p1.Height)), (29, ⟨g613, 2, none⟩, (.slice A_p1_Cells p1.Cells.length c_p1_Cells))], [0, 1, 2, 3, 4, 5, 6, 7, 8, 9, 10, 11, 12, 14, 15, 17, 18, 19, 20, 21, 22, 23, 24, 25, 26, 27, 28, 29, 30, 31, 32, 34, 35, 37, 38, 39], [[], [0], [], [2], [0, 1, 2, 3], [0, 1, 2, 3, 4], [0, 1, 2, 3, 4, 5], [0, 1, 2, 3, 4, 5, 6], [0, 1, 2, 3, 4, 5], [0, 1, 2, 3, 4, 5], [0, 1, 2, 3, 4, 5], [0, 1, 2, 3, 4, 5, 10], [0, 1, 2, 3, 4, 5], [0, 1, 2, 3, 4, 5, 9, 10, 11, 12], [0, 1, 2, 3, 4, 5, 8, 9, 10, 11, 12, 13], [0, 1, 2, 3, 4, 5, 8, 9, 10, 11, 12, 13, 14], [0, 1, 2, 3, 4, 5, 8, 9, 10, 11, 12, 13, 14, 15], [0, 1, 2, 3, 4, 5, 6, 7, 8, 9, 10, 11, 12, 13, 14, 15, 16], [0, 1, 2, 3, 4, 5, 6, 7, 8, 9, 10, 11, 12, 13, 14, 15, 16, 17], [0, 1, 2, 3, 4, 5, 6, 7, 8, 9, 10, 11, 12, 13, 14, 15, 16, 17, 18], [0, 1, 2, 3, 4, 5, 6, 7, 8, 9, 10, 11, 12, 13, 14, 15, 16, 17, 18, 19], [0, 1, 2, 3, 4, 5, 6, 7, 8, 9, 10, 11, 12, 13, 14, 15, 16, 17, 18, 19, 20], [0, 1, 2, 3, 4, 5, 6, 7, 8, 9, 10, 11, 12, 13, 14, 15, 16, 17, 18, 19], [0, 1, 2, 3, 4, 5, 6, 7, 8, 9, 10, 11, 12, 13, 14, 15, 16, 17, 18, 19, 22], [0, 1, 2, 3, 4, 5, 6, 7, 8, 9, 10, 11, 12, 13, 14, 15, 16, 17, 18, 19, 20, 21, 22, 23], [0, 1, 2, 3, 4, 5, 6, 7, 8, 9, 10, 11, 12, 13, 14, 15, 16, 17, 18, 19, 20, 21, 22, 23, 24], [0, 1, 2, 3, 4, 5, 6, 7, 8, 9, 10, 11, 12, 13, 14, 15, 16, 17, 18, 19, 20, 21, 22, 23, 24, 25], [0, 1, 2, 3, 4, 5, 6, 7, 8, 9, 10, 11, 12, 13, 14, 15, 16, 17, 18, 19, 20, 21, 22, 23, 24, 25, 26], [0, 1, 2, 3, 4, 5, 6, 7, 8, 9, 10, 11, 12, 13, 14, 15, 16, 17, 18, 19, 20, 21, 22, 23, 24, 25], [0, 1, 2, 3, 4, 5, 6, 7, 8, 9, 10, 11, 12, 13, 14, 15, 16, 17, 18, 19, 20, 21, 22, 23, 24, 25], [0, 1, 2, 3, 4, 5, 6, 7, 8, 9, 10, 11, 12, 13, 14, 15, 16, 17, 18, 19, 20, 21, 22, 23, 24, 25], [0, 1, 2, 3, 4, 5, 6, 7, 8, 9, 10, 11, 12, 13, 14, 15, 16, 17, 18, 19, 20, 21, 22, 23, 24, 25], [0, 1, 2, 3, 4, 5, 6, 7, 8, 9, 10, 11, 12, 13, 14, 15, 16, 17, 18, 19, 20, 21, 22, 23, 24, 25, 31], [0, 1, 2, 3, 4, 5, 6, 7, 8, 9, 10, 11, 12, 13, 14, 15, 16, 17, 18, 19, 20, 21, 22, 23, 24, 25, 29, 30, 31, 32], [0, 1, 2, 3, 4, 5, 6, 7, 8, 9, 10, 11, 12, 13, 14, 15, 16, 17, 18, 19, 20, 21, 22, 23, 24, 25, 28, 29, 30, 31, 32, 33], [0, 1, 2, 3, 4, 5, 6, 7, 8, 9, 10, 11, 12, 13, 14, 15, 16, 17, 18, 19, 20, 21, 22, 23, 24, 25, 28, 29, 30, 31, 32, 33, 34], [0, 1, 2, 3, 4, 5, 6, 7, 8, 9, 10, 11, 12, 13, 14, 15, 16, 17, 18, 19, 20, 21, 22, 23, 24, 25, 28, 29, 30, 31, 32, 33, 34, 35], [0, 1, 2, 3, 4, 5, 6, 7, 8, 9, 10, 11, 12, 13, 14, 15, 16, 17, 18, 19, 20, 21, 22, 23, 24, 25, 26, 27, 28, 29, 30, 31, 32, 33, 34, 35, 36], [0, 1, 2, 3, 4, 5, 6, 7, 8, 9, 10, 11, 12, 13, 14, 15, 16, 17, 18, 19, 20, 21, 22, 23, 24, 25, 26, 27, 28, 29, 30, 31, 32, 33, 34, 35, 36, 37], [0, 1, 2, 3, 4, 5, 6, 7, 8, 9, 10, 11, 12, 13, 14, 15, 16, 17, 18, 19, 20, 21, 22, 23, 24, 25, 26, 27, 28, 29, 30, 31, 32, 33, 34, 35, 36, 37, 38]]) [[0, 1, 2, 3, 4, 5, 6, 7, 8, 9, 10, 11, 12, 13, 14, 15, 16, 17, 18, 19, 20, 21, 22, 23, 24, 25, 26, 27, 28, 29, 30, 31, 32, 33, 34, 35, 36, 37, 38, 39]] (by kernel_rfl) (by kernel_rfl) (NoPanic.seq (NoPanic.block (NoPanic.seq (NoPanic.seq (NoPanic.block (NoPanic.block (NoPanic.seq (NoPanic.seq (NoPanic.block (NoPanic.seq (NoPanic.body))))))))))) ?_
                  have hS2655 := hS2479.drew
                  revert hS2655
                  generalize World.drew w2478 = w2654
                  intro hS2655
                  refine ⟨⟨hS2655.cell 1 rfl 0 rfl, hS2655.cell 0 rfl 1 rfl, hS2655.cell 1 rfl 0 rfl, hS2655.cell 1 rfl 1 rfl, hS2655.cell 1 rfl 2 rfl, hS2655.cell 1 rfl 1 rfl, hS2655.cell 0 rfl 0 rfl, hS2655.cell 1 rfl 0 rfl, hS2655.cell 1 rfl 1 rfl, hS2655.cell 1 rfl 2 rfl, trivial⟩, forallC ?_ (forallN)⟩
                  refine segF 6 [.v (.int .i64 p1.Width)] [0, 3, 6, 7, 8, 59] [(0, (.slice A_p0 p0.length c_p0)), (3, (.pointer (some ⟨g613, 0, none⟩))), (6, (.int .i64 x2013)), (7, (.int .i64 x2460)), (8, (.pointer (some ⟨g2474, 0, none⟩))), (59, (.bool (decide (w64 (x2460 + 1) < p1.Width))))] [] [0] [(3, ⟨g613, 0, none⟩, (.int .i64 p1.Width))] (fun fb => by kernel_rfl) rfl trivial rfl ?_
                  refine WL.setB 59 h2582 rfl ?_
                  refine segF 13 [.v (.int .i64 ((rdD p0 t2468 z_Tile).E)), .v (.int .i64 p1.Width), .v (.int .i64 p1.Height), .v (.slice A_p1_Cells p1.Cells.length c_p1_Cells)] [0, 3, 6, 7, 8, 59, 61, 62, 63, 65, 66] [(0, (.slice A_p0 p0.length c_p0)), (3, (.pointer (some ⟨g613, 0, none⟩))), (6, (.int .i64 x2013)), (7, (.int .i64 x2460)), (8, (.pointer (some ⟨g2474, 0, none⟩))), (59, (.bool true)), (61, (.int .i64 ((rdD p0 t2468 z_Tile).E))), (62, (.slice A_p0 p0.length c_p0)), (63, (.agg #[(.int .i64 p1.Width), (.int .i64 p1.Height), (.slice A_p1_Cells p1.Cells.length c_p1_Cells)])), (65, (.int .i64 (w64 (x2460 + 1)))), (66, (.int .i64 x2013))] [] [1, 2, 3, 4] [(7, ⟨g2474, 1, none⟩, (.int .i64 ((rdD p0 t2468 z_Tile).E))), (9, ⟨g613, 0, none⟩, (.int .i64 p1.Width)), (9, ⟨g613, 1, none⟩, (.int .i64 p1.Height)), (9, ⟨g613, 2, none⟩, (.slice A_p1_Cells p1.Cells.length c_p1_Cells))] (fun fb => by kernel_rfl) rfl trivial rfl ?_
                  obtain ⟨t2656, ht2657, hx2581⟩ := bind_some hx2581
                  refine WL.call (some 67) 49 #[(.agg #[(.int .i64 p1.Width), (.int .i64 p1.Height), (.slice A_p1_Cells p1.Cells.length c_p1_Cells)]), (.int .i64 (w64 (x2460 + 1))), (.int .i64 x2013)] (fun fb => by kernel_rfl) (ref01_Cell_calls p1 (w64 (x2460 + 1)) x2013 A_p1_Cells c_p1_Cells t2656 _ (hS2655.rd 1) ht2657) (fun v w2658 hR2659 => ?_)
                  obtain ⟨rfl, hk_⟩ := hR2659
                  have hS2660 := hS2655.keepN hk_
                  refine ⟨⟨hS2660.cell 0 rfl 1 rfl, hS2660.cell 1 rfl 1 rfl, hS2660.cell 0 rfl 0 rfl, hS2660.cell 1 rfl 0 rfl, hS2660.cell 1 rfl 1 rfl, hS2660.cell 1 rfl 2 rfl, trivial⟩, ?_⟩
                  obtain ⟨h2661, hx2581⟩ := as_some hx2581
                  refine seg 20 [.v (.int .i64 ((rdD p0 t2656 z_Tile).W))] [0, 3, 6, 7, 8, 73] [(0, (.slice A_p0 p0.length c_p0)), (3, (.pointer (some ⟨g613, 0, none⟩))), (6, (.int .i64 x2013)), (7, (.int .i64 x2460)), (8, (.pointer (some ⟨g2474, 0, none⟩))), (73, (.bool (((rdD p0 t2468 z_Tile).E) != ((rdD p0 t2656 z_Tile).W))))] [.idx A_p0 t2656 p0.length, .cell (((adr A_p0).add ((t2656).toNat * 4)).add 3) (.int .i64 ((rdD p0 t2656 z_Tile).W))] (fun fb => by kernel_rfl) rfl ⟨rowR.adr (hS2660.rd 0).1 h2661.1 h2661.2, rowR.cell (hS2660.rd 0).1 z_Tile h2661.1 h2661.2 3 rfl, trivial⟩ ?_
                  refine WL.cutV (T := Bool) 40 (fun t => [(93, (.bool t)), (0, (.slice A_p0 p0.length c_p0)), (3, (.pointer (some ⟨g613, 0, none⟩))), (6, (.int .i64 x2013)), (7, (.int .i64 x2460))]) (fun t => t = (((rdD p0 t2468 z_Tile).E) != ((rdD p0 t2656 z_Tile).W))) (fun K => ?_) ?_
                  ·
                    rcases Bool.eq_false_or_eq_true (((rdD p0 t2468 z_Tile).E) != ((rdD p0 t2656 z_Tile).W)) with h2662 | h2662
                    ·
                      refine WL.setB 73 h2662 rfl ?_
                      refine seg 40 [] [0, 3, 6, 7, 93] [(0, (.slice A_p0 p0.length c_p0)), (3, (.pointer (some ⟨g613, 0, none⟩))), (6, (.int .i64 x2013)), (7, (.int .i64 x2460)), (93, (.bool true))] [] (fun fb => by kernel_rfl) rfl trivial ?_
                      exact WL.toV K true [93, 0, 3, 6, 7] rfl (by first | (rw [h2662]; done) | (rw [h2662]; rfl))
                    refine WL.setB 73 h2662 rfl ?_
                    refine segF 26 [.v (.int .i64 p1.Height)] [0, 3, 6, 7, 8, 73, 79] [(0, (.slice A_p0 p0.length c_p0)), (3, (.pointer (some ⟨g613, 0, none⟩))), (6, (.int .i64 x2013)), (7, (.int .i64 x2460)), (8, (.pointer (some ⟨g2474, 0, none⟩))), (73, (.bool false)), (79, (.bool (decide (w64 (x2013 + 1) < p1.Height))))] [] [5] [(23, ⟨g613, 1, none⟩, (.int .i64 p1.Height))] (fun fb => by kernel_rfl) rfl trivial rfl ?_
                    refine WL.setB 79 h2589 rfl ?_
                    refine seg 40 [] [0, 3, 6, 7, 93] [(0, (.slice A_p0 p0.length c_p0)), (3, (.pointer (some ⟨g613, 0, none⟩))), (6, (.int .i64 x2013)), (7, (.int .i64 x2460)), (93, (.bool false))] [] (fun fb => by kernel_rfl) rfl trivial ?_
                    exact WL.toV K false [93, 0, 3, 6, 7] rfl (by first | (rw [h2662]; done) | (rw [h2662]; rfl))
                  rintro b2663 rfl
                  refine WL.done rfl ?_
                  injection hx2581 with hx2581
                  exact WX.to Kx2580 (((rdD p0 t2468 z_Tile).E) != ((rdD p0 t2656 z_Tile).W)) [0, 3, 6, 7, 93] rfl ⟨(hS2660.subR [0, 1]).sub [1] (by decide), hx2581.symm⟩
                rcases br_some hx2581 with ⟨h2664, hx2581⟩ | ⟨h2664, hx2581⟩
                ·
                  refine WC.regionD ([(3, ⟨g613, 0, none⟩, (.int .i64 p1.Width)), (7, ⟨g2474, 1, none⟩, (.int .i64 ((rdD p0 t2468 z_Tile).E))), (9, ⟨g613, 0, none⟩, (.int .i64 p1.Width)), (9, ⟨g613, 1, none⟩, (.int .i64 p1.Height)), (9, ⟨g613, 2, none⟩, (.slice A_p1_Cells p1.Cells.length c_p1_Cells)), (23, ⟨g613, 1, none⟩, (.int .i64 p1.Height)), (27, ⟨g2474, 0, none⟩, (.int .i64 ((rdD p0 t2468 z_Tile).N))), (29, ⟨g613, 0, none⟩, (.int .i64 p1.Width)), (29, ⟨g613, 1, none⟩, (.int .i64 p1.Height)), (29, ⟨g613, 2, none⟩, (.slice A_p1_Cells p1.Cells.length c_p1_Cells))], [0, 1, 2, 3, 4, 5, 6, 7, 8, 9, 10, 11, 12, 14, 15, 17, 18, 19, 20, 21, 22, 23, 24, 25, 26, 27, 28, 29, 30, 31, 32, 34, 35, 37, 38, 39], [[], [0], [], [2], [0, 1, 2, 3], [0, 1, 2, 3, 4], [0, 1, 2, 3, 4, 5], [0, 1, 2, 3, 4, 5, 6], [0, 1, 2, 3, 4, 5], [0, 1, 2, 3, 4, 5], [0, 1, 2, 3, 4, 5], [0, 1, 2, 3, 4, 5, 10], [0, 1, 2, 3, 4, 5], [0, 1, 2, 3, 4, 5, 9, 10, 11, 12], [0, 1, 2, 3, 4, 5, 8, 9, 10, 11, 12, 13], [0, 1, 2, 3, 4, 5, 8, 9, 10, 11, 12, 13, 14], [0, 1, 2, 3, 4, 5, 8, 9, 10, 11, 12, 13, 14, 15], [0, 1, 2, 3, 4, 5, 6, 7, 8, 9, 10, 11, 12, 13, 14, 15, 16], [0, 1, 2, 3, 4, 5, 6, 7, 8, 9, 10, 11, 12, 13, 14, 15, 16, 17], [0, 1, 2, 3, 4, 5, 6, 7, 8, 9, 10, 11, 12, 13, 14, 15, 16, 17, 18], [0, 1, 2, 3, 4, 5, 6, 7, 8, 9, 10, 11, 12, 13, 14, 15, 16, 17, 18, 19], [0, 1, 2, 3, 4, 5, 6, 7, 8, 9, 10, 11, 12, 13, 14, 15, 16, 17, 18, 19, 20], [0, 1, 2, 3, 4, 5, 6, 7, 8, 9, 10, 11, 12, 13, 14, 15, 16, 17, 18, 19], [0, 1, 2, 3, 4, 5, 6, 7, 8, 9, 10, 11, 12, 13, 14, 15, 16, 17, 18, 19, 22], [0, 1, 2, 3, 4, 5, 6, 7, 8, 9, 10, 11, 12, 13, 14, 15, 16, 17, 18, 19, 20, 21, 22, 23], [0, 1, 2, 3, 4, 5, 6, 7, 8, 9, 10, 11, 12, 13, 14, 15, 16, 17, 18, 19, 20, 21, 22, 23, 24], [0, 1, 2, 3, 4, 5, 6, 7, 8, 9, 10, 11, 12, 13, 14, 15, 16, 17, 18, 19, 20, 21, 22, 23, 24, 25], [0, 1, 2, 3, 4, 5, 6, 7, 8, 9, 10, 11, 12, 13, 14, 15, 16, 17, 18, 19, 20, 21, 22, 23, 24, 25, 26], [0, 1, 2, 3, 4, 5, 6, 7, 8, 9, 10, 11, 12, 13, 14, 15, 16, 17, 18, 19, 20, 21, 22, 23, 24, 25], [0, 1, 2, 3, 4, 5, 6, 7, 8, 9, 10, 11, 12, 13, 14, 15, 16, 17, 18, 19, 20, 21, 22, 23, 24, 25], [0, 1, 2, 3, 4, 5, 6, 7, 8, 9, 10, 11, 12, 13, 14, 15, 16, 17, 18, 19, 20, 21, 22, 23, 24, 25], [0, 1, 2, 3, 4, 5, 6, 7, 8, 9, 10, 11, 12, 13, 14, 15, 16, 17, 18, 19, 20, 21, 22, 23, 24, 25], [0, 1, 2, 3, 4, 5, 6, 7, 8, 9, 10, 11, 12, 13, 14, 15, 16, 17, 18, 19, 20, 21, 22, 23, 24, 25, 31], [0, 1, 2, 3, 4, 5, 6, 7, 8, 9, 10, 11, 12, 13, 14, 15, 16, 17, 18, 19, 20, 21, 22, 23, 24, 25, 29, 30, 31, 32], [0, 1, 2, 3, 4, 5, 6, 7, 8, 9, 10, 11, 12, 13, 14, 15, 16, 17, 18, 19, 20, 21, 22, 23, 24, 25, 28, 29, 30, 31, 32, 33], [0, 1, 2, 3, 4, 5, 6, 7, 8, 9, 10, 11, 12, 13, 14, 15, 16, 17, 18, 19, 20, 21, 22, 23, 24, 25, 28, 29, 30, 31, 32, 33, 34], [0, 1, 2, 3, 4, 5, 6, 7, 8, 9, 10, 11, 12, 13, 14, 15, 16, 17, 18, 19, 20, 21, 22, 23, 24, 25, 28, 29, 30, 31, 32, 33, 34, 35], [0, 1, 2, 3, 4, 5, 6, 7, 8, 9, 10, 11, 12, 13, 14, 15, 16, 17, 18, 19, 20, 21, 22, 23, 24, 25, 26, 27, 28, 29, 30, 31, 32, 33, 34, 35, 36], [0, 1, 2, 3, 4, 5, 6, 7, 8, 9, 10, 11, 12, 13, 14, 15, 16, 17, 18, 19, 20, 21, 22, 23, 24, 25, 26, 27, 28, 29, 30, 31, 32, 33, 34, 35, 36, 37], [0, 1, 2, 3, 4, 5, 6, 7, 8, 9, 10, 11, 12, 13, 14, 15, 16, 17, 18, 19, 20, 21, 22, 23, 24, 25, 26, 27, 28, 29, 30, 31, 32, 33, 34, 35, 36, 37, 38]]) [[0, 1, 2, 3, 4, 5, 6, 7, 8, 9, 10, 11, 12, 13, 14, 15, 16, 17, 18, 19, 20, 21, 22, 23, 24, 25, 26, 27, 28, 29, 30, 31, 32, 33, 34, 35, 36, 37, 38, 39]] (by kernel_rfl) (by kernel_rfl) (NoPanic.seq (NoPanic.block (NoPanic.seq (NoPanic.seq (NoPanic.block (NoPanic.block (NoPanic.seq (NoPanic.seq (NoPanic.block (NoPanic.seq (NoPanic.body))))))))))) ?_
                  have hS2672 := hS2479.drew
                  revert hS2672
                  generalize World.drew w2478 = w2671
                  intro hS2672
                  refine ⟨⟨hS2672.cell 1 rfl 0 rfl, hS2672.cell 0 rfl 1 rfl, hS2672.cell 1 rfl 0 rfl, hS2672.cell 1 rfl 1 rfl, hS2672.cell 1 rfl 2 rfl, hS2672.cell 1 rfl 1 rfl, hS2672.cell 0 rfl 0 rfl, hS2672.cell 1 rfl 0 rfl, hS2672.cell 1 rfl 1 rfl, hS2672.cell 1 rfl 2 rfl, trivial⟩, forallC ?_ (forallN)⟩
                  refine segF 6 [.v (.int .i64 p1.Width)] [0, 3, 6, 7, 8, 59] [(0, (.slice A_p0 p0.length c_p0)), (3, (.pointer (some ⟨g613, 0, none⟩))), (6, (.int .i64 x2013)), (7, (.int .i64 x2460)), (8, (.pointer (some ⟨g2474, 0, none⟩))), (59, (.bool (decide (w64 (x2460 + 1) < p1.Width))))] [] [0] [(3, ⟨g613, 0, none⟩, (.int .i64 p1.Width))] (fun fb => by kernel_rfl) rfl trivial rfl ?_
                  refine WL.setB 59 h2582 rfl ?_
                  refine segF 26 [.v (.int .i64 p1.Height)] [0, 3, 6, 7, 8, 73, 79] [(0, (.slice A_p0 p0.length c_p0)), (3, (.pointer (some ⟨g613, 0, none⟩))), (6, (.int .i64 x2013)), (7, (.int .i64 x2460)), (8, (.pointer (some ⟨g2474, 0, none⟩))), (73, (.bool false)), (79, (.bool (decide (w64 (x2013 + 1) < p1.Height))))] [] [5] [(23, ⟨g613, 1, none⟩, (.int .i64 p1.Height))] (fun fb => by kernel_rfl) rfl trivial rfl ?_
                  refine WL.setB 79 h2664 rfl ?_
                  refine segF 33 [.v (.int .i64 ((rdD p0 t2468 z_Tile).N)), .v (.int .i64 p1.Width), .v (.int .i64 p1.Height), .v (.slice A_p1_Cells p1.Cells.length c_p1_Cells)] [0, 3, 6, 7, 73, 79, 81, 82, 83, 84, 86] [(0, (.slice A_p0 p0.length c_p0)), (3, (.pointer (some ⟨g613, 0, none⟩))), (6, (.int .i64 x2013)), (7, (.int .i64 x2460)), (73, (.bool false)), (79, (.bool true)), (81, (.int .i64 ((rdD p0 t2468 z_Tile).N))), (82, (.slice A_p0 p0.length c_p0)), (83, (.agg #[(.int .i64 p1.Width), (.int .i64 p1.Height), (.slice A_p1_Cells p1.Cells.length c_p1_Cells)])), (84, (.int .i64 x2460)), (86, (.int .i64 (w64 (x2013 + 1))))] [] [6, 7, 8, 9] [(27, ⟨g2474, 0, none⟩, (.int .i64 ((rdD p0 t2468 z_Tile).N))), (29, ⟨g613, 0, none⟩, (.int .i64 p1.Width)), (29, ⟨g613, 1, none⟩, (.int .i64 p1.Height)), (29, ⟨g613, 2, none⟩, (.slice A_p1_Cells p1.Cells.length c_p1_Cells))] (fun fb => by kernel_rfl) rfl trivial rfl ?_
                  obtain ⟨t2673, ht2674, hx2581⟩ := bind_some hx2581
                  refine WL.call (some 87) 49 #[(.agg #[(.int .i64 p1.Width), (.int .i64 p1.Height), (.slice A_p1_Cells p1.Cells.length c_p1_Cells)]), (.int .i64 x2460), (.int .i64 (w64 (x2013 + 1)))] (fun fb => by kernel_rfl) (ref01_Cell_calls p1 x2460 (w64 (x2013 + 1)) A_p1_Cells c_p1_Cells t2673 _ (hS2672.rd 1) ht2674) (fun v w2675 hR2676 => ?_)
                  obtain ⟨rfl, hk_⟩ := hR2676
                  have hS2677 := hS2672.keepN hk_
                  refine ⟨⟨hS2677.cell 0 rfl 0 rfl, trivial⟩, ?_⟩
                  obtain ⟨h2678, hx2581⟩ := as_some hx2581
                  refine seg 40 [.v (.int .i64 ((rdD p0 t2673 z_Tile).S))] [0, 3, 6, 7, 93] [(0, (.slice A_p0 p0.length c_p0)), (3, (.pointer (some ⟨g613, 0, none⟩))), (6, (.int .i64 x2013)), (7, (.int .i64 x2460)), (93, (.bool (((rdD p0 t2468 z_Tile).N) != ((rdD p0 t2673 z_Tile).S))))] [.idx A_p0 t2673 p0.length, .cell (((adr A_p0).add ((t2673).toNat * 4)).add 2) (.int .i64 ((rdD p0 t2673 z_Tile).S))] (fun fb => by kernel_rfl) rfl ⟨rowR.adr (hS2677.rd 0).1 h2678.1 h2678.2, rowR.cell (hS2677.rd 0).1 z_Tile h2678.1 h2678.2 2 rfl, trivial⟩ ?_
                  refine WL.done rfl ?_
                  injection hx2581 with hx2581
                  exact WX.to Kx2580 (((rdD p0 t2468 z_Tile).N) != ((rdD p0 t2673 z_Tile).S)) [0, 3, 6, 7, 93] rfl ⟨(hS2677.subR [0, 1]).sub [1] (by decide), hx2581.symm⟩
                refine WC.regionD ([(3, ⟨g613, 0, none⟩, (.int .i64 p1.Width)), (7, ⟨g2474, 1, none⟩, (.int .i64 ((rdD p0 t2468 z_Tile).E))), (9, ⟨g613, 0, none⟩, (.int .i64 p1.Width)), (9, ⟨g613, 1, none⟩, (.int .i64 p1.Height)), (9, ⟨g613, 2, none⟩, (.slice A_p1_Cells p1.Cells.length c_p1_Cells)), (23, ⟨g613, 1, none⟩, (.int .i64 p1.Height)), (27, ⟨g2474, 0, none⟩, (.int .i64 ((rdD p0 t2468 z_Tile).N))), (29, ⟨g613, 0, none⟩, (.int .i64 p1.Width)), (29, ⟨g613, 1, none⟩, (.int .i64 p1.Height)), (29, ⟨g613, 2, none⟩, (.slice A_p1_Cells p1.Cells.length c_p1_Cells))], [0, 1, 2, 3, 4, 5, 6, 7, 8, 9, 10, 11, 12, 14, 15, 17, 18, 19, 20, 21, 22, 23, 24, 25, 26, 27, 28, 29, 30, 31, 32, 34, 35, 37, 38, 39], [[], [0], [], [2], [0, 1, 2, 3], [0, 1, 2, 3, 4], [0, 1, 2, 3, 4, 5], [0, 1, 2, 3, 4, 5, 6], [0, 1, 2, 3, 4, 5], [0, 1, 2, 3, 4, 5], [0, 1, 2, 3, 4, 5], [0, 1, 2, 3, 4, 5, 10], [0, 1, 2, 3, 4, 5], [0, 1, 2, 3, 4, 5, 9, 10, 11, 12], [0, 1, 2, 3, 4, 5, 8, 9, 10, 11, 12, 13], [0, 1, 2, 3, 4, 5, 8, 9, 10, 11, 12, 13, 14], [0, 1, 2, 3, 4, 5, 8, 9, 10, 11, 12, 13, 14, 15], [0, 1, 2, 3, 4, 5, 6, 7, 8, 9, 10, 11, 12, 13, 14, 15, 16], [0, 1, 2, 3, 4, 5, 6, 7, 8, 9, 10, 11, 12, 13, 14, 15, 16, 17], [0, 1, 2, 3, 4, 5, 6, 7, 8, 9, 10, 11, 12, 13, 14, 15, 16, 17, 18], [0, 1, 2, 3, 4, 5, 6, 7, 8, 9, 10, 11, 12, 13, 14, 15, 16, 17, 18, 19], [0, 1, 2, 3, 4, 5, 6, 7, 8, 9, 10, 11, 12, 13, 14, 15, 16, 17, 18, 19, 20], [0, 1, 2, 3, 4, 5, 6, 7, 8, 9, 10, 11, 12, 13, 14, 15, 16, 17, 18, 19], [0, 1, 2, 3, 4, 5, 6, 7, 8, 9, 10, 11, 12, 13, 14, 15, 16, 17, 18, 19, 22], [0, 1, 2, 3, 4, 5, 6, 7, 8, 9, 10, 11, 12, 13, 14, 15, 16, 17, 18, 19, 20, 21, 22, 23], [0, 1, 2, 3, 4, 5, 6, 7, 8, 9, 10, 11, 12, 13, 14, 15, 16, 17, 18, 19, 20, 21, 22, 23, 24], [0, 1, 2, 3, 4, 5, 6, 7, 8, 9, 10, 11, 12, 13, 14, 15, 16, 17, 18, 19, 20, 21, 22, 23, 24, 25], [0, 1, 2, 3, 4, 5, 6, 7, 8, 9, 10, 11, 12, 13, 14, 15, 16, 17, 18, 19, 20, 21, 22, 23, 24, 25, 26], [0, 1, 2, 3, 4, 5, 6, 7, 8, 9, 10, 11, 12, 13, 14, 15, 16, 17, 18, 19, 20, 21, 22, 23, 24, 25], [0, 1, 2, 3, 4, 5, 6, 7, 8, 9, 10, 11, 12, 13, 14, 15, 16, 17, 18, 19, 20, 21, 22, 23, 24, 25], [0, 1, 2, 3, 4, 5, 6, 7, 8, 9, 10, 11, 12, 13, 14, 15, 16, 17, 18, 19, 20, 21, 22, 23, 24, 25], [0, 1, 2, 3, 4, 5, 6, 7, 8, 9, 10, 11, 12, 13, 14, 15, 16, 17, 18, 19, 20, 21, 22, 23, 24, 25], [0, 1, 2, 3, 4, 5, 6, 7, 8, 9, 10, 11, 12, 13, 14, 15, 16, 17, 18, 19, 20, 21, 22, 23, 24, 25, 31], [0, 1, 2, 3, 4, 5, 6, 7, 8, 9, 10, 11, 12, 13, 14, 15, 16, 17, 18, 19, 20, 21, 22, 23, 24, 25, 29, 30, 31, 32], [0, 1, 2, 3, 4, 5, 6, 7, 8, 9, 10, 11, 12, 13, 14, 15, 16, 17, 18, 19, 20, 21, 22, 23, 24, 25, 28, 29, 30, 31, 32, 33], [0, 1, 2, 3, 4, 5, 6, 7, 8, 9, 10, 11, 12, 13, 14, 15, 16, 17, 18, 19, 20, 21, 22, 23, 24, 25, 28, 29, 30, 31, 32, 33, 34], [0, 1, 2, 3, 4, 5, 6, 7, 8, 9, 10, 11, 12, 13, 14, 15, 16, 17, 18, 19, 20, 21, 22, 23, 24, 25, 28, 29, 30, 31, 32, 33, 34, 35], [0, 1, 2, 3, 4, 5, 6, 7, 8, 9, 10, 11, 12, 13, 14, 15, 16, 17, 18, 19, 20, 21, 22, 23, 24, 25, 26, 27, 28, 29, 30, 31, 32, 33, 34, 35, 36], [0, 1, 2, 3, 4, 5, 6, 7, 8, 9, 10, 11, 12, 13, 14, 15, 16, 17, 18, 19, 20, 21, 22, 23, 24, 25, 26, 27, 28, 29, 30, 31, 32, 33, 34, 35, 36, 37], [0, 1, 2, 3, 4, 5, 6, 7, 8, 9, 10, 11, 12, 13, 14, 15, 16, 17, 18, 19, 20, 21, 22, 23, 24, 25, 26, 27, 28, 29, 30, 31, 32, 33, 34, 35, 36, 37, 38]]) [[0, 1, 2, 3, 4, 5, 6, 7, 8, 9, 10, 11, 12, 13, 14, 15, 16, 17, 18, 19, 20, 21, 22, 23, 24, 25, 26, 27, 28, 29, 30, 31, 32, 33, 34, 35, 36, 37, 38, 39]] (by kernel_rfl) (by kernel_rfl) (NoPanic.seq (NoPanic.block (NoPanic.seq (NoPanic.seq (NoPanic.block (NoPanic.block (NoPanic.seq (NoPanic.seq (NoPanic.block (NoPanic.seq (NoPanic.body))))))))))) ?_
                have hS2680 := hS2479.drew
                revert hS2680
                generalize World.drew w2478 = w2679
                intro hS2680
                refine ⟨⟨hS2680.cell 1 rfl 0 rfl, hS2680.cell 0 rfl 1 rfl, hS2680.cell 1 rfl 0 rfl, hS2680.cell 1 rfl 1 rfl, hS2680.cell 1 rfl 2 rfl, hS2680.cell 1 rfl 1 rfl, hS2680.cell 0 rfl 0 rfl, hS2680.cell 1 rfl 0 rfl, hS2680.cell 1 rfl 1 rfl, hS2680.cell 1 rfl 2 rfl, trivial⟩, forallC ?_ (forallN)⟩
                refine segF 6 [.v (.int .i64 p1.Width)] [0, 3, 6, 7, 8, 59] [(0, (.slice A_p0 p0.length c_p0)), (3, (.pointer (some ⟨g613, 0, none⟩))), (6, (.int .i64 x2013)), (7, (.int .i64 x2460)), (8, (.pointer (some ⟨g2474, 0, none⟩))), (59, (.bool (decide (w64 (x2460 + 1) < p1.Width))))] [] [0] [(3, ⟨g613, 0, none⟩, (.int .i64 p1.Width))] (fun fb => by kernel_rfl) rfl trivial rfl ?_
                refine WL.setB 59 h2582 rfl ?_
                refine segF 26 [.v (.int .i64 p1.Height)] [0, 3, 6, 7, 8, 73, 79] [(0, (.slice A_p0 p0.length c_p0)), (3, (.pointer (some ⟨g613, 0, none⟩))), (6, (.int .i64 x2013)), (7, (.int .i64 x2460)), (8, (.pointer (some ⟨g2474, 0, none⟩))), (73, (.bool false)), (79, (.bool (decide (w64 (x2013 + 1) < p1.Height))))] [] [5] [(23, ⟨g613, 1, none⟩, (.int .i64 p1.Height))] (fun fb => by kernel_rfl) rfl trivial rfl ?_
                refine WL.setB 79 h2664 rfl ?_
                refine seg 40 [] [0, 3, 6, 7, 93] [(0, (.slice A_p0 p0.length c_p0)), (3, (.pointer (some ⟨g613, 0, none⟩))), (6, (.int .i64 x2013)), (7, (.int .i64 x2460)), (93, (.bool false))] [] (fun fb => by kernel_rfl) rfl trivial ?_
                refine WL.done rfl ?_
                injection hx2581 with hx2581
                exact WX.to Kx2580 false [0, 3, 6, 7, 93] rfl ⟨(hS2680.subR [0, 1]).sub [1] (by decide), hx2581.symm⟩
              rintro y2684 w2681 ⟨hS2682, hq2683⟩
              subst hq2683
              refine WX.next ?_
              rcases br_some hl2466 with ⟨h2685, hl2466⟩ | ⟨h2685, hl2466⟩
              · refine WC.condT2 (fun fb => by kernel_rfl) h2685 ?_
                refine WC.seq ?_
                refine WC.region ?_
                refine seg 1 [] [4] [(4, (.bool false))] [] (fun fb => by kernel_rfl) rfl trivial ?_
                refine WL.done rfl ?_
                refine WX.next ?_
                refine WC.ret ?_
                injection hl2466 with hl2466
                subst hl2466
                injection hl2019 with hl2019
                subst hl2019
                injection hf with hf
                subst hf
                exact WX.blockR (WX.thenR (WX.thenR (WX.blockR (WX.blockR (WX.thenR (WX.thenR (WX.blockR (WX.thenR (WX.ret_ [] (.bool false) [] (fun fb => by kernel_rfl) trivial ⟨_, rfl, rfl, hS2682.keep⟩)))))))))
              refine WC.condF2 (fun fb => by kernel_rfl) h2685 ?_
              refine WC.skip ?_
              refine WX.blockN (WX.next ?_)
              refine WC.region ?_
              refine seg 3 [] [0, 3, 6, 7] [(0, (.slice A_p0 p0.length c_p0)), (3, (.pointer (some ⟨g613, 0, none⟩))), (6, (.int .i64 x2013)), (7, (.int .i64 (w64 (x2460 + 1))))] [] (fun fb => by kernel_rfl) rfl trivial ?_
              refine WL.done rfl ?_
              exact WX.again k2463 (Nat.lt_succ_self _) (w64 (x2460 + 1)) [0, 3, 6, 7] rfl ⟨(hS2682.subR [0, 1]).sub [0] (by decide), hl2466⟩
            refine WC.condF2 (fun fb => by kernel_rfl) h2467 ?_
            refine WC.exit ?_
            injection hl2466 with hl2466
            exact WX.thenX (WX.thenX (WX.blockHere (WX.to Kx2461 () [0, 3, 6] rfl ⟨(hS2465.subR [0, 1]).sub [0] (by decide), hl2466.symm⟩)))
        rintro y2689 w2686 ⟨hS2687, hq2688⟩
        subst hq2688
        have hl2019 := sum_inr hl2019
        refine WX.blockN (WX.next ?_)
        refine WC.region ?_
        refine seg 3 [] [0, 3, 6] [(0, (.slice A_p0 p0.length c_p0)), (3, (.pointer (some ⟨g613, 0, none⟩))), (6, (.int .i64 (w64 (x2013 + 1))))] [] (fun fb => by kernel_rfl) rfl trivial ?_
        refine WL.done rfl ?_
        exact WX.again k2016 (Nat.lt_succ_self _) (w64 (x2013 + 1)) [0, 3, 6] rfl ⟨(hS2687.subR [0, 1]).sub [0] (by decide), hl2019⟩
      refine WC.condF2 (fun fb => by kernel_rfl) h2020 ?_
      refine WC.exit ?_
      injection hl2019 with hl2019
      exact WX.thenX (WX.thenX (WX.blockHere (WX.to Kx2014 () [] rfl ⟨(hS2018.subR [0, 1]).sub [] (by decide), hl2019.symm⟩)))
  rintro y2694 w2691 ⟨hS2692, hq2693⟩
  subst hq2693
  have hf := sum_inr hf
  refine WX.next ?_
  refine WC.seq ?_
  refine WC.region ?_
  refine seg 1 [] [4] [(4, (.bool true))] [] (fun fb => by kernel_rfl) rfl trivial ?_
  refine WL.done rfl ?_
  refine WX.next ?_
  refine WC.ret ?_
  injection hf with hf
  subst hf
  exact WX.ret_ [] (.bool true) [] (fun fb => by kernel_rfl) trivial ⟨_, rfl, rfl, hS2692.keep⟩
theorem ref01_Fits_calls (k : Nat) (p0 : List Tile) (p1 : Pattern) (A_p0 : Option Addr) (c_p0 : Nat) (A_p1_Cells : Option Addr) (c_p1_Cells : Nat) (r : Bool) (w : World) (hR0 : RO NoS w (rowR enc_Tile A_p0 c_p0 p0)) (hR1 : RO NoS w (rowR encInt A_p1_Cells c_p1_Cells p1.Cells)) (hf : ref01_Fits k p0 p1 = some r) :
    CallsR Tryd.prog 15 #[(.slice A_p0 p0.length c_p0), (.agg #[(.int .i64 p1.Width), (.int .i64 p1.Height), (.slice A_p1_Cells p1.Cells.length c_p1_Cells)])] w (fun v w' => v = (.bool r) ∧ Keeps NoS w w') := by
  have hS : St NoS w w [rowR enc_Tile A_p0 c_p0 p0, rowR encInt A_p1_Cells c_p1_Cells p1.Cells] [] := St.init (ro_cons hR0 (ro_cons hR1 (ro_nil _ _)))
  refine enter 12 Tryd.func15 rfl Tryd.ntmps15 rfl ?_
  unfold ref01_Fits at hf
  refine WC.seq ?_
  refine WC.region ?_
  refine WL.new hS 3 [] (fun g => (.pointer (some ⟨g, 0, none⟩))) (.cells #[(.int .i64 p1.Width), (.int .i64 p1.Height), (.slice A_p1_Cells p1.Cells.length c_p1_Cells)] 35 (0, 0)) [] (fun fb g => by kernel_rfl) trivial (fun g7 w8 hS9 => ?_)
  refine ⟨trivial, ?_⟩
  refine seg 2 [] [0, 3] [(0, (.slice A_p0 p0.length c_p0)), (3, (.pointer (some ⟨g7, 0, none⟩)))] [] (fun fb => by kernel_rfl) rfl trivial ?_
  refine WL.done rfl ?_
  refine WX.next ?_
  refine WC.seq ?_
  refine WC.region ?_
  refine seg 1 [] [0, 3, 5] [(0, (.slice A_p0 p0.length c_p0)), (3, (.pointer (some ⟨g7, 0, none⟩))), (5, (.slice A_p0 p0.length c_p0))] [] (fun fb => by kernel_rfl) rfl trivial ?_
  obtain ⟨t608, ht609, hf⟩ := bind_some hf
  refine WL.call (some 6) 17 #[(.slice A_p0 p0.length c_p0)] (fun fb => by kernel_rfl) (ref01_Valid_calls _ p0 A_p0 c_p0 t608 _ (hS9.rd 0) ht609) (fun v w610 hR611 => ?_)
  obtain ⟨rfl, hk_⟩ := hR611
  have hS612 := hS9.keepN hk_
  refine ⟨trivial, ?_⟩
  refine seg 3 [] [0, 3, 7] [(0, (.slice A_p0 p0.length c_p0)), (3, (.pointer (some ⟨g7, 0, none⟩))), (7, (.bool t608))] [] (fun fb => by kernel_rfl) rfl trivial ?_
  obtain ⟨x2702, hx2703, hf⟩ := bind_some hf
  refine WL.cutW (T := Bool) 7 (fun t => [(11, (.bool t))]) (fun t w1 => (St NoS w w1 [rowR enc_Tile A_p0 c_p0 p0, rowR encInt A_p1_Cells c_p1_Cells p1.Cells] [] ∧ x2702 = t) ∧ CellsOK [] w1) (fun K => ?_) ?_
  ·
    rcases br_some hx2703 with ⟨h2704, hx2703⟩ | ⟨h2704, hx2703⟩
    ·
      refine WL.setB 7 h2704 rfl ?_
      refine seg 5 [.v (.int .i64 p1.Width), .v (.int .i64 p1.Height), .v (.slice A_p1_Cells p1.Cells.length c_p1_Cells)] [7, 8, 9] [(7, (.bool true)), (8, (.slice A_p0 p0.length c_p0)), (9, (.agg #[(.int .i64 p1.Width), (.int .i64 p1.Height), (.slice A_p1_Cells p1.Cells.length c_p1_Cells)]))] [.cell ⟨g7, 0, none⟩ (.int .i64 p1.Width), .cell ⟨g7, 1, none⟩ (.int .i64 p1.Height), .cell ⟨g7, 2, none⟩ (.slice A_p1_Cells p1.Cells.length c_p1_Cells)] (fun fb => by kernel_rfl) rfl ⟨hS612.cell 0 rfl 0 rfl, hS612.cell 0 rfl 1 rfl, hS612.cell 0 rfl 2 rfl, trivial⟩ ?_
      obtain ⟨t2705, ht2706, hx2703⟩ := bind_some hx2703
      refine WL.call (some 10) 46 #[(.slice A_p0 p0.length c_p0), (.agg #[(.int .i64 p1.Width), (.int .i64 p1.Height), (.slice A_p1_Cells p1.Cells.length c_p1_Cells)])] (fun fb => by kernel_rfl) (ref01_Of_calls _ p0 p1 A_p0 c_p0 A_p1_Cells c_p1_Cells t2705 _ (hS612.rd 0) (hS612.rd 1) ht2706) (fun v w2707 hR2708 => ?_)
      obtain ⟨rfl, hk_⟩ := hR2708
      have hS2709 := hS612.keepN hk_
      refine ⟨trivial, ?_⟩
      refine seg 7 [] [11] [(11, (.bool t2705))] [] (fun fb => by kernel_rfl) rfl trivial ?_
      injection hx2703 with hx2703
      exact WL.to K t2705 [11] rfl ⟨⟨(hS2709.subR [0, 1]).sub [] (by decide), hx2703.symm⟩, trivial⟩
    refine WL.setB 7 h2704 rfl ?_
    refine seg 7 [] [11] [(11, (.bool false))] [] (fun fb => by kernel_rfl) rfl trivial ?_
    injection hx2703 with hx2703
    exact WL.to K false [11] rfl ⟨⟨(hS612.subR [0, 1]).sub [] (by decide), hx2703.symm⟩, trivial⟩
  rintro y2710 w2712 ⟨⟨hS2713, hq2711⟩, hF2714⟩
  subst hq2711
  refine seg 8 [] [4] [(4, (.bool x2702))] [] (fun fb => by kernel_rfl) rfl trivial ?_
  refine WL.done rfl ?_
  refine WX.next ?_
  refine WC.ret ?_
  injection hf with hf
  subst hf
  exact WX.ret_ [] (.bool x2702) [] (fun fb => by kernel_rfl) trivial ⟨_, rfl, rfl, hS2713.keep⟩
theorem tile_colour_1_calls (p0 : Int)  (r : Bool) (w : World)  (hf : tile_colour_1 p0 = some r) :
    CallsR Tryd.prog 65 #[(.int .i64 p0)] w (fun v w' => v = (.bool r) ∧ Keeps NoS w w') := by
  have hS : St NoS w w [] [] := St.init (ro_nil _ _)
  refine enter 9 Tryd.func65 rfl Tryd.ntmps65 rfl ?_
  unfold tile_colour_1 at hf
  refine WC.seq ?_
  refine WC.region ?_
  refine seg 1 [] [0] [(0, (.int .i64 p0))] [] (fun fb => by kernel_rfl) rfl trivial ?_
  refine WL.done rfl ?_
  refine WX.next ?_
  refine WC.seq ?_
  refine WC.region ?_
  refine seg 3 [] [0, 5] [(0, (.int .i64 p0)), (5, (.bool (decide (p0 < 0))))] [] (fun fb => by kernel_rfl) rfl trivial ?_
  refine WL.cutV (T := Bool) 6 (fun t => [(8, (.bool t))]) (fun t => t = ((decide (p0 < 0)) || (decide (p0 ≥ 1000)))) (fun K => ?_) ?_
  ·
    rcases Bool.eq_false_or_eq_true (decide (p0 < 0)) with h3143 | h3143
    ·
      refine WL.setB 5 h3143 rfl ?_
      refine seg 6 [] [8] [(8, (.bool true))] [] (fun fb => by kernel_rfl) rfl trivial ?_
      exact WL.toV K true [8] rfl (by first | (rw [h3143]; done) | (rw [h3143]; rfl))
    refine WL.setB 5 h3143 rfl ?_
    refine seg 6 [] [8] [(8, (.bool (decide (p0 ≥ 1000))))] [] (fun fb => by kernel_rfl) rfl trivial ?_
    exact WL.toV K (decide (p0 ≥ 1000)) [8] rfl (by first | (rw [h3143]; done) | (rw [h3143]; rfl))
  rintro b3144 rfl
  refine seg 7 [] [2] [(2, (.bool ((decide (p0 < 0)) || (decide (p0 ≥ 1000)))))] [] (fun fb => by kernel_rfl) rfl trivial ?_
  refine WL.done rfl ?_
  refine WX.next ?_
  refine WC.ret ?_
  injection hf with hf
  subst hf
  exact WX.ret_ [] (.bool ((decide (p0 < 0)) || (decide (p0 ≥ 1000)))) [] (fun fb => by kernel_rfl) trivial ⟨_, rfl, rfl, hS.keep⟩
theorem slices_IndexFunc_int_int_with_tile_colour_1_calls (k : Nat) (p0 : List Int) (A_p0 : Option Addr) (c_p0 : Nat) (r : Int) (w : World) (hR0 : RO NoS w (rowR encInt A_p0 c_p0 p0)) (hf : slices_IndexFunc_int_int_with_tile_colour_1 k p0 = some r) :
    CallsR Tryd.prog 78 #[(.slice A_p0 p0.length c_p0), (.func (.func 65) #[] #[])] w (fun v w' => v = (.int .i64 r) ∧ Keeps NoS w w') := by
  have hS : St NoS w w [rowR encInt A_p0 c_p0 p0] [] := St.init (ro_cons hR0 (ro_nil _ _))
  refine enter 19 Tryd.func78 rfl Tryd.ntmps78 rfl ?_
  unfold slices_IndexFunc_int_int_with_tile_colour_1 at hf
  refine WC.seq ?_
  refine WC.region ?_
  refine seg 1 [] [0, 1] [(0, (.slice A_p0 p0.length c_p0)), (1, (.func (.func 65) #[] #[]))] [] (fun fb => by kernel_rfl) rfl trivial ?_
  refine WL.done rfl ?_
  refine WX.next ?_
  refine WC.seq ?_
  refine WC.seq ?_
  refine WC.region ?_
  refine seg 3 [] [0, 1, 7, 8] [(0, (.slice A_p0 p0.length c_p0)), (1, (.func (.func 65) #[] #[])), (7, (.int .i64 (p0.length : Int))), (8, (.int .i64 0))] [] (fun fb => by kernel_rfl) rfl trivial ?_
  refine WL.done rfl ?_
  refine WX.next ?_
  obtain ⟨x3161, hx3162, hf⟩ := bind_some hf
  refine WC.cutN (T := Unit) (fun t => []) (fun t w1 => St NoS w w1 [rowR encInt A_p0 c_p0 p0] [] ∧ x3161 = .inr t) (fun Kx3161 => ?_) ?_
  ·
    refine WC.block ?_
    refine WC.loop (T := Int) (fun t => [(0, (.slice A_p0 p0.length c_p0)), (1, (.func (.func 65) #[] #[])), (7, (.int .i64 (p0.length : Int))), (8, (.int .i64 t))]) (fun n t w1 => St NoS w w1 [rowR encInt A_p0 c_p0 p0] [] ∧ slices_IndexFunc_int_int_with_tile_colour_1.l0 n t p0 = some x3161) k 0 [0, 1, 7, 8] rfl ⟨(hS.subR [0]).sub [] (by decide), hx3162⟩ ?_
    rintro k3163 x3160 w3164 ⟨hS3165, hl3166⟩
    cases k3163 with
    | zero => rw [slices_IndexFunc_int_int_with_tile_colour_1.l0] at hl3166; cases hl3166
    | succ k3163 =>
      rw [slices_IndexFunc_int_int_with_tile_colour_1.l0] at hl3166
      refine WC.seq ?_
      refine WC.region ?_
      refine seg 1 [] [0, 1, 7, 8, 9] [(0, (.slice A_p0 p0.length c_p0)), (1, (.func (.func 65) #[] #[])), (7, (.int .i64 (p0.length : Int))), (8, (.int .i64 x3160)), (9, (.bool (decide (x3160 < (p0.length : Int)))))] [] (fun fb => by kernel_rfl) rfl trivial ?_
      refine WL.done rfl ?_
      refine WX.next ?_
      refine WC.seq ?_
      rcases br_some hl3166 with ⟨h3167, hl3166⟩ | ⟨h3167, hl3166⟩
      · refine WC.condT2 (fun fb => by kernel_rfl) h3167 ?_
        refine WC.skip ?_
        refine WX.next ?_
        refine WC.seq ?_
        refine WC.block ?_
        refine WC.seq ?_
        refine WC.region ?_
        refine seg 2 [] [0, 1, 5, 7, 8] [(0, (.slice A_p0 p0.length c_p0)), (1, (.func (.func 65) #[] #[])), (5, (.int .i64 x3160)), (7, (.int .i64 (p0.length : Int))), (8, (.int .i64 x3160))] [] (fun fb => by kernel_rfl) rfl trivial ?_
        refine WL.done rfl ?_
        refine WX.next ?_
        refine WC.seq ?_
        refine WC.region ?_
        refine seg 3 [] [0, 1, 5, 7, 8, 11, 12, 13] [(0, (.slice A_p0 p0.length c_p0)), (1, (.func (.func 65) #[] #[])), (5, (.int .i64 x3160)), (7, (.int .i64 (p0.length : Int))), (8, (.int .i64 x3160)), (11, (.func (.func 65) #[] #[])), (12, (.slice A_p0 p0.length c_p0)), (13, (.int .i64 x3160))] [] (fun fb => by kernel_rfl) rfl trivial ?_
        obtain ⟨h3168, hl3166⟩ := as_some hl3166
        refine seg 5 [.v (.int .i64 (rdD p0 x3160 0))] [0, 1, 5, 7, 8, 11, 15] [(0, (.slice A_p0 p0.length c_p0)), (1, (.func (.func 65) #[] #[])), (5, (.int .i64 x3160)), (7, (.int .i64 (p0.length : Int))), (8, (.int .i64 x3160)), (11, (.func (.func 65) #[] #[])), (15, (.int .i64 (rdD p0 x3160 0)))] [.idx A_p0 x3160 p0.length, .cell ((adr A_p0).add ((x3160).toNat * 1)) (.int .i64 (rdD p0 x3160 0))] (fun fb => by kernel_rfl) rfl ⟨rowR.adr (hS3165.rd 0).1 h3168.1 h3168.2, rowR.cell (hS3165.rd 0).1 0 h3168.1 h3168.2 0 rfl, trivial⟩ ?_
        obtain ⟨t3169, ht3170, hl3166⟩ := bind_some hl3166
        refine WL.call (some 16) 65 #[(.int .i64 (rdD p0 x3160 0))] (fun fb => by kernel_rfl) (tile_colour_1_calls (rdD p0 x3160 0) t3169 _ ht3170) (fun v w3171 hR3172 => ?_)
        obtain ⟨rfl, hk_⟩ := hR3172
        have hS3173 := hS3165.keepN hk_
        refine ⟨trivial, ?_⟩
        refine WL.done rfl ?_
        refine WX.next ?_
        rcases br_some hl3166 with ⟨h3174, hl3166⟩ | ⟨h3174, hl3166⟩
        · refine WC.condT2 (fun fb => by kernel_rfl) h3174 ?_
          refine WC.seq ?_
          refine WC.region ?_
          refine seg 2 [] [4] [(4, (.int .i64 x3160))] [] (fun fb => by kernel_rfl) rfl trivial ?_
          refine WL.done rfl ?_
          refine WX.next ?_
          refine WC.ret ?_
          injection hl3166 with hl3166
          subst hl3166
          injection hf with hf
          subst hf
          exact WX.blockR (WX.thenR (WX.thenR (WX.blockR (WX.thenR (WX.ret_ [] (.int .i64 x3160) [] (fun fb => by kernel_rfl) trivial ⟨_, rfl, rfl, hS3173.keep⟩)))))
        refine WC.condF2 (fun fb => by kernel_rfl) h3174 ?_
        refine WC.skip ?_
        refine WX.blockN (WX.next ?_)
        refine WC.region ?_
        refine seg 2 [] [0, 1, 7, 8] [(0, (.slice A_p0 p0.length c_p0)), (1, (.func (.func 65) #[] #[])), (7, (.int .i64 (p0.length : Int))), (8, (.int .i64 (w64 (x3160 + 1))))] [] (fun fb => by kernel_rfl) rfl trivial ?_
        refine WL.done rfl ?_
        exact WX.again k3163 (Nat.lt_succ_self _) (w64 (x3160 + 1)) [0, 1, 7, 8] rfl ⟨(hS3173.subR [0]).sub [] (by decide), hl3166⟩
      refine WC.condF2 (fun fb => by kernel_rfl) h3167 ?_
      refine WC.exit ?_
      injection hl3166 with hl3166
      exact WX.thenX (WX.thenX (WX.blockHere (WX.to Kx3161 () [] rfl ⟨(hS3165.subR [0]).sub [] (by decide), hl3166.symm⟩)))
  rintro y3178 w3175 ⟨hS3176, hq3177⟩
  subst hq3177
  have hf := sum_inr hf
  refine WX.next ?_
  refine WC.seq ?_
  refine WC.region ?_
  refine seg 1 [] [4] [(4, (.int .i64 (-1)))] [] (fun fb => by kernel_rfl) rfl trivial ?_
  refine WL.done rfl ?_
  refine WX.next ?_
  refine WC.ret ?_
  injection hf with hf
  subst hf
  exact WX.ret_ [] (.int .i64 (-1)) [] (fun fb => by kernel_rfl) trivial ⟨_, rfl, rfl, hS3176.keep⟩
theorem slices_ContainsFunc_int_int_with_tile_colour_1_calls (k : Nat) (p0 : List Int) (A_p0 : Option Addr) (c_p0 : Nat) (r : Bool) (w : World) (hR0 : RO NoS w (rowR encInt A_p0 c_p0 p0)) (hf : slices_ContainsFunc_int_int_with_tile_colour_1 k p0 = some r) :
    CallsR Tryd.prog 62 #[(.slice A_p0 p0.length c_p0), (.func (.func 65) #[] #[])] w (fun v w' => v = (.bool r) ∧ Keeps NoS w w') := by
  have hS : St NoS w w [rowR encInt A_p0 c_p0 p0] [] := St.init (ro_cons hR0 (ro_nil _ _))
  refine enter 9 Tryd.func62 rfl Tryd.ntmps62 rfl ?_
  unfold slices_ContainsFunc_int_int_with_tile_colour_1 at hf
  refine WC.seq ?_
  refine WC.region ?_
  refine seg 1 [] [0, 1] [(0, (.slice A_p0 p0.length c_p0)), (1, (.func (.func 65) #[] #[]))] [] (fun fb => by kernel_rfl) rfl trivial ?_
  refine WL.done rfl ?_
  refine WX.next ?_
  refine WC.seq ?_
  refine WC.region ?_
  refine seg 2 [] [5, 6] [(5, (.slice A_p0 p0.length c_p0)), (6, (.func (.func 65) #[] #[]))] [] (fun fb => by kernel_rfl) rfl trivial ?_
  obtain ⟨t3180, ht3181, hf⟩ := bind_some hf
  refine WL.call (some 7) 78 #[(.slice A_p0 p0.length c_p0), (.func (.func 65) #[] #[])] (fun fb => by kernel_rfl) (slices_IndexFunc_int_int_with_tile_colour_1_calls _ p0 A_p0 c_p0 t3180 _ (hS.rd 0) ht3181) (fun v w3182 hR3183 => ?_)
  obtain ⟨rfl, hk_⟩ := hR3183
  have hS3184 := hS.keepN hk_
  refine ⟨trivial, ?_⟩
  refine seg 5 [] [4] [(4, (.bool (decide (t3180 ≥ 0))))] [] (fun fb => by kernel_rfl) rfl trivial ?_
  refine WL.done rfl ?_
  refine WX.next ?_
  refine WC.ret ?_
  injection hf with hf
  subst hf
  exact WX.ret_ [] (.bool (decide (t3180 ≥ 0))) [] (fun fb => by kernel_rfl) trivial ⟨_, rfl, rfl, hS3184.keep⟩
theorem tile_colour_calls (k : Nat) (p0 : List Int) (A_p0 : Option Addr) (c_p0 : Nat) (r : Bool) (w : World) (hR0 : RO NoS w (rowR encInt A_p0 c_p0 p0)) (hf : tile_colour k p0 = some r) :
    CallsR Tryd.prog 51 #[(.slice A_p0 p0.length c_p0)] w (fun v w' => v = (.bool r) ∧ Keeps NoS w w') := by
  have hS : St NoS w w [rowR encInt A_p0 c_p0 p0] [] := St.init (ro_cons hR0 (ro_nil _ _))
  refine enter 6 Tryd.func51 rfl Tryd.ntmps51 rfl ?_
  unfold tile_colour at hf
  refine WC.seq ?_
  refine WC.region ?_
  refine seg 1 [] [0] [(0, (.slice A_p0 p0.length c_p0))] [] (fun fb => by kernel_rfl) rfl trivial ?_
  refine WL.done rfl ?_
  refine WX.next ?_
  refine WC.seq ?_
  refine WC.region ?_
  refine seg 1 [] [3] [(3, (.slice A_p0 p0.length c_p0))] [] (fun fb => by kernel_rfl) rfl trivial ?_
  obtain ⟨t3185, ht3186, hf⟩ := bind_some hf
  refine WL.call (some 4) 62 #[(.slice A_p0 p0.length c_p0), (.func (.func 65) #[] #[])] (fun fb => by kernel_rfl) (slices_ContainsFunc_int_int_with_tile_colour_1_calls _ p0 A_p0 c_p0 t3185 _ (hS.rd 0) ht3186) (fun v w3187 hR3188 => ?_)
  obtain ⟨rfl, hk_⟩ := hR3188
  have hS3189 := hS.keepN hk_
  refine ⟨trivial, ?_⟩
  refine seg 4 [] [2] [(2, (.bool (!t3185)))] [] (fun fb => by kernel_rfl) rfl trivial ?_
  refine WL.done rfl ?_
  refine WX.next ?_
  refine WC.ret ?_
  injection hf with hf
  subst hf
  exact WX.ret_ [] (.bool (!t3185)) [] (fun fb => by kernel_rfl) trivial ⟨_, rfl, rfl, hS3189.keep⟩
theorem tile_Valid_key62 : KeyK Tryd.prog 62 (aggI ints_Tile) := KeyK.struct (n := 4) (by kernel_rfl) ints_Tile (fun _ => rfl) (fun x y h => by cases x; cases y; simp only [ints_Tile, List.cons.injEq, and_true] at h; obtain ⟨rfl, rfl, rfl, rfl⟩ := h; rfl)
theorem tile_Valid_calls (k : Nat) (p0 : List Tile) (A_p0 : Option Addr) (c_p0 : Nat) (r : Bool) (w : World) (hR0 : RO NoS w (rowR enc_Tile A_p0 c_p0 p0)) (hf : tile_Valid k p0 = some r) :
    CallsR Tryd.prog 22 #[(.slice A_p0 p0.length c_p0)] w (fun v w' => v = (.bool r) ∧ Keeps NoS w w') := by
  have hS : St NoS w w [rowR enc_Tile A_p0 c_p0 p0] [] := St.init (ro_cons hR0 (ro_nil _ _))
  refine enter 35 Tryd.func22 rfl Tryd.ntmps22 rfl ?_
  unfold tile_Valid at hf
  refine WC.seq ?_
  refine WC.region ?_
  refine seg 1 [] [0] [(0, (.slice A_p0 p0.length c_p0))] [] (fun fb => by kernel_rfl) rfl trivial ?_
  refine WL.done rfl ?_
  refine WX.next ?_
  refine WC.seq ?_
  refine WC.seq ?_
  refine WC.region ?_
  refine seg 3 [] [0, 8] [(0, (.slice A_p0 p0.length c_p0)), (8, (.bool (decide ((p0.length : Int) > 1000))))] [] (fun fb => by kernel_rfl) rfl trivial ?_
  refine WL.done rfl ?_
  refine WX.next ?_
  rcases br_some hf with ⟨h3124, hf⟩ | ⟨h3124, hf⟩
  · refine WC.condT2 (fun fb => by kernel_rfl) h3124 ?_
    refine WC.seq ?_
    refine WC.region ?_
    refine seg 1 [] [2] [(2, (.bool false))] [] (fun fb => by kernel_rfl) rfl trivial ?_
    refine WL.done rfl ?_
    refine WX.next ?_
    refine WC.ret ?_
    injection hf with hf
    subst hf
    exact WX.thenR (WX.ret_ [] (.bool false) [] (fun fb => by kernel_rfl) trivial ⟨_, rfl, rfl, hS.keep⟩)
  refine WC.condF2 (fun fb => by kernel_rfl) h3124 ?_
  refine WC.skip ?_
  refine WX.next ?_
  refine WC.seq ?_
  refine WC.region ?_
  refine WL.new hS 9 [] (fun g => (.map (some g))) (mapObj (aggI ints_Tile) vB ([] : List (Tile × Bool))) [] (fun fb g => by kernel_rfl) trivial (fun g3125 w3126 hS3127 => ?_)
  refine ⟨trivial, ?_⟩
  refine seg 2 [] [0, 3] [(0, (.slice A_p0 p0.length c_p0)), (3, (.map (some g3125)))] [] (fun fb => by kernel_rfl) rfl trivial ?_
  refine WL.done rfl ?_
  refine WX.next ?_
  refine WC.seq ?_
  refine WC.seq ?_
  refine WC.region ?_
  refine seg 3 [] [3, 10, 11, 12] [(3, (.map (some g3125))), (10, (.slice A_p0 p0.length c_p0)), (11, (.int .i64 (p0.length : Int))), (12, (.int .i64 0))] [] (fun fb => by kernel_rfl) rfl trivial ?_
  refine WL.done rfl ?_
  refine WX.next ?_
  obtain ⟨x3261, hx3262, hf⟩ := bind_some hf
  refine WC.cutN (T := Unit) (fun t => []) (fun t w1 => St NoS w w1 [rowR enc_Tile A_p0 c_p0 p0] [] ∧ x3261 = .inr t) (fun Kx3261 => ?_) ?_
  ·
    refine WC.block ?_
    refine WC.loop (T := (List (Tile × Bool)) × Int) (fun t => [(3, (.map (some g3125))), (10, (.slice A_p0 p0.length c_p0)), (11, (.int .i64 (p0.length : Int))), (12, (.int .i64 t.2))]) (fun n t w1 => St NoS w w1 [rowR enc_Tile A_p0 c_p0 p0] [blk g3125 (mapObj (aggI ints_Tile) vB t.1)] ∧ tile_Valid.l0 n t.1 t.2 p0 = some x3261) k (([] : List (Tile × Bool)), 0) [3, 10, 11, 12] rfl ⟨(hS3127.subR [0]).sub [0] (by decide), hx3262⟩ ?_
    rintro k3263 ⟨l3259, x3260⟩ w3264 ⟨hS3265, hl3266⟩
    cases k3263 with
    | zero => rw [tile_Valid.l0] at hl3266; cases hl3266
    | succ k3263 =>
      rw [tile_Valid.l0] at hl3266
      refine WC.seq ?_
      refine WC.region ?_
      refine seg 1 [] [3, 10, 11, 12, 13] [(3, (.map (some g3125))), (10, (.slice A_p0 p0.length c_p0)), (11, (.int .i64 (p0.length : Int))), (12, (.int .i64 x3260)), (13, (.bool (decide (x3260 < (p0.length : Int)))))] [] (fun fb => by kernel_rfl) rfl trivial ?_
      refine WL.done rfl ?_
      refine WX.next ?_
      refine WC.seq ?_
      rcases br_some hl3266 with ⟨h3267, hl3266⟩ | ⟨h3267, hl3266⟩
      · refine WC.condT2 (fun fb => by kernel_rfl) h3267 ?_
        refine WC.skip ?_
        refine WX.next ?_
        refine WC.seq ?_
        refine WC.block ?_
        refine WC.seq ?_
        refine WC.region ?_
        obtain ⟨h3268, hl3266⟩ := as_some hl3266
        refine seg 2 [.v (.int .i64 ((rdD p0 x3260 z_Tile).N)), .v (.int .i64 ((rdD p0 x3260 z_Tile).E)), .v (.int .i64 ((rdD p0 x3260 z_Tile).S)), .v (.int .i64 ((rdD p0 x3260 z_Tile).W))] [3, 10, 11, 12, 15] [(3, (.map (some g3125))), (10, (.slice A_p0 p0.length c_p0)), (11, (.int .i64 (p0.length : Int))), (12, (.int .i64 x3260)), (15, (.agg #[(.int .i64 ((rdD p0 x3260 z_Tile).N)), (.int .i64 ((rdD p0 x3260 z_Tile).E)), (.int .i64 ((rdD p0 x3260 z_Tile).S)), (.int .i64 ((rdD p0 x3260 z_Tile).W))]))] [.idx A_p0 x3260 p0.length, .cell ((adr A_p0).add ((x3260).toNat * 4)) (.int .i64 ((rdD p0 x3260 z_Tile).N)), .cell (((adr A_p0).add ((x3260).toNat * 4)).add 1) (.int .i64 ((rdD p0 x3260 z_Tile).E)), .cell (((adr A_p0).add ((x3260).toNat * 4)).add 2) (.int .i64 ((rdD p0 x3260 z_Tile).S)), .cell (((adr A_p0).add ((x3260).toNat * 4)).add 3) (.int .i64 ((rdD p0 x3260 z_Tile).W))] (fun fb => by kernel_rfl) rfl ⟨rowR.adr (hS3265.rd 0).1 h3268.1 h3268.2, rowR.cell (hS3265.rd 0).1 z_Tile h3268.1 h3268.2 0 rfl, rowR.cell (hS3265.rd 0).1 z_Tile h3268.1 h3268.2 1 rfl, rowR.cell (hS3265.rd 0).1 z_Tile h3268.1 h3268.2 2 rfl, rowR.cell (hS3265.rd 0).1 z_Tile h3268.1 h3268.2 3 rfl, trivial⟩ ?_
        refine WL.new hS3265 5 [] (fun g => (.pointer (some ⟨g, 0, none⟩))) (.cells #[(.int .i64 0), (.int .i64 0), (.int .i64 0), (.int .i64 0)] 62 (0, 0)) [] (fun fb g => by kernel_rfl) trivial (fun g3269 w3270 hS3271 => ?_)
        refine ⟨trivial, ?_⟩
        refine WL.store hS3271 0 rfl [(0, (.int .i64 ((rdD p0 x3260 z_Tile).N))), (1, (.int .i64 ((rdD p0 x3260 z_Tile).E))), (2, (.int .i64 ((rdD p0 x3260 z_Tile).S))), (3, (.int .i64 ((rdD p0 x3260 z_Tile).W)))] #[(.int .i64 ((rdD p0 x3260 z_Tile).N)), (.int .i64 ((rdD p0 x3260 z_Tile).E)), (.int .i64 ((rdD p0 x3260 z_Tile).S)), (.int .i64 ((rdD p0 x3260 z_Tile).W))] (fun fb => by kernel_rfl) (by kernel_rfl) rfl [1] (by decide) (by decide) (fun w3273 hS3274 => ?_)
        refine ⟨trivial, ?_⟩
        refine WL.done rfl ?_
        refine WX.next ?_
        refine WC.seq ?_
        refine WC.seq ?_
        refine WC.region ?_
        refine seg 2 [.v (.int .i64 ((rdD p0 x3260 z_Tile).N)), .v (.int .i64 ((rdD p0 x3260 z_Tile).E)), .v (.int .i64 ((rdD p0 x3260 z_Tile).S)), .v (.int .i64 ((rdD p0 x3260 z_Tile).W))] [3, 5, 10, 11, 12, 16, 17] [(3, (.map (some g3125))), (5, (.pointer (some ⟨g3269, 0, none⟩))), (10, (.slice A_p0 p0.length c_p0)), (11, (.int .i64 (p0.length : Int))), (12, (.int .i64 x3260)), (16, (.map (some g3125))), (17, (.agg #[(.int .i64 ((rdD p0 x3260 z_Tile).N)), (.int .i64 ((rdD p0 x3260 z_Tile).E)), (.int .i64 ((rdD p0 x3260 z_Tile).S)), (.int .i64 ((rdD p0 x3260 z_Tile).W))]))] [.cell ⟨g3269, 0, none⟩ (.int .i64 ((rdD p0 x3260 z_Tile).N)), .cell ⟨g3269, 1, none⟩ (.int .i64 ((rdD p0 x3260 z_Tile).E)), .cell ⟨g3269, 2, none⟩ (.int .i64 ((rdD p0 x3260 z_Tile).S)), .cell ⟨g3269, 3, none⟩ (.int .i64 ((rdD p0 x3260 z_Tile).W))] (fun fb => by kernel_rfl) rfl ⟨hS3274.cell 0 rfl 0 rfl, hS3274.cell 0 rfl 1 rfl, hS3274.cell 0 rfl 2 rfl, hS3274.cell 0 rfl 3 rfl, trivial⟩ ?_
        refine WL.lookup (hS3274.own 1).1 (rdD p0 x3260 z_Tile) (d := 18) (c := false) (t := 68) (kT := 62) (eT := 4) (z := false) (kE := (aggI ints_Tile)) (vE := vB) (l := l3259) (.bool (mget (rdD p0 x3260 z_Tile) false l3259)) (fun fb => by kernel_rfl) tile_Valid_key62 (by kernel_rfl) (fun _ => by kernel_rfl) rfl ?_
        refine ⟨trivial, ?_⟩
        refine seg 4 [] [3, 5, 10, 11, 12, 19] [(3, (.map (some g3125))), (5, (.pointer (some ⟨g3269, 0, none⟩))), (10, (.slice A_p0 p0.length c_p0)), (11, (.int .i64 (p0.length : Int))), (12, (.int .i64 x3260)), (19, (.bool (mget (rdD p0 x3260 z_Tile) false l3259)))] [] (fun fb => by kernel_rfl) rfl trivial ?_
        obtain ⟨x3286, hx3287, hl3266⟩ := bind_some hl3266
        refine WL.cutW (T := Bool) 16 (fun t => [(3, (.map (some g3125))), (5, (.pointer (some ⟨g3269, 0, none⟩))), (10, (.slice A_p0 p0.length c_p0)), (11, (.int .i64 (p0.length : Int))), (12, (.int .i64 x3260)), (31, (.bool t))]) (fun t w1 => (St NoS w w1 [rowR enc_Tile A_p0 c_p0 p0] [blk g3125 (mapObj (aggI ints_Tile) vB l3259), blk g3269 (.cells #[(.int .i64 ((rdD p0 x3260 z_Tile).N)), (.int .i64 ((rdD p0 x3260 z_Tile).E)), (.int .i64 ((rdD p0 x3260 z_Tile).S)), (.int .i64 ((rdD p0 x3260 z_Tile).W))] 62 (0, 0))] ∧ x3286 = t) ∧ CellsOK [] w1) (fun K => ?_) ?_
        ·
          rcases br_some hx3287 with ⟨h3288, hx3287⟩ | ⟨h3288, hx3287⟩
          ·
            refine WL.setB 19 h3288 rfl ?_
            refine seg 16 [] [3, 5, 10, 11, 12, 31] [(3, (.map (some g3125))), (5, (.pointer (some ⟨g3269, 0, none⟩))), (10, (.slice A_p0 p0.length c_p0)), (11, (.int .i64 (p0.length : Int))), (12, (.int .i64 x3260)), (31, (.bool true))] [] (fun fb => by kernel_rfl) rfl trivial ?_
            injection hx3287 with hx3287
            exact WL.to K true [3, 5, 10, 11, 12, 31] rfl ⟨⟨(hS3274.subR [0]).sub [1, 0] (by decide), hx3287.symm⟩, trivial⟩
          refine WL.setB 19 h3288 rfl ?_
          refine seg 12 [.v (.int .i64 ((rdD p0 x3260 z_Tile).N)), .v (.int .i64 ((rdD p0 x3260 z_Tile).E)), .v (.int .i64 ((rdD p0 x3260 z_Tile).S)), .v (.int .i64 ((rdD p0 x3260 z_Tile).W))] [3, 5, 10, 11, 12, 19, 21, 23, 25, 27] [(3, (.map (some g3125))), (5, (.pointer (some ⟨g3269, 0, none⟩))), (10, (.slice A_p0 p0.length c_p0)), (11, (.int .i64 (p0.length : Int))), (12, (.int .i64 x3260)), (19, (.bool false)), (21, (.int .i64 ((rdD p0 x3260 z_Tile).N))), (23, (.int .i64 ((rdD p0 x3260 z_Tile).E))), (25, (.int .i64 ((rdD p0 x3260 z_Tile).S))), (27, (.int .i64 ((rdD p0 x3260 z_Tile).W)))] [.cell ⟨g3269, 0, none⟩ (.int .i64 ((rdD p0 x3260 z_Tile).N)), .cell ⟨g3269, 1, none⟩ (.int .i64 ((rdD p0 x3260 z_Tile).E)), .cell ⟨g3269, 2, none⟩ (.int .i64 ((rdD p0 x3260 z_Tile).S)), .cell ⟨g3269, 3, none⟩ (.int .i64 ((rdD p0 x3260 z_Tile).W))] (fun fb => by kernel_rfl) rfl ⟨hS3274.cell 0 rfl 0 rfl, hS3274.cell 0 rfl 1 rfl, hS3274.cell 0 rfl 2 rfl, hS3274.cell 0 rfl 3 rfl, trivial⟩ ?_
          refine WL.new hS3274 28 [] (fun g => (.slice (some ⟨g, 0, none⟩) 4 4)) (.cells #[(.int .i64 ((rdD p0 x3260 z_Tile).N)), (.int .i64 ((rdD p0 x3260 z_Tile).E)), (.int .i64 ((rdD p0 x3260 z_Tile).S)), (.int .i64 ((rdD p0 x3260 z_Tile).W))] 3 (0, 0)) [] (fun fb g => by kernel_rfl) trivial (fun g3289 w3290 hS3291 => ?_)
          refine ⟨trivial, ?_⟩
          have hS3293 : St NoS w w3290 [rowR enc_Tile A_p0 c_p0 p0] [rowO 3 encInt (some ⟨g3289, 0, none⟩) 4 [(rdD p0 x3260 z_Tile).N, (rdD p0 x3260 z_Tile).E, (rdD p0 x3260 z_Tile).S, (rdD p0 x3260 z_Tile).W], blk g3269 (.cells #[(.int .i64 ((rdD p0 x3260 z_Tile).N)), (.int .i64 ((rdD p0 x3260 z_Tile).E)), (.int .i64 ((rdD p0 x3260 z_Tile).S)), (.int .i64 ((rdD p0 x3260 z_Tile).W))] 62 (0, 0)), blk g3125 (mapObj (aggI ints_Tile) vB l3259)] := hS3291.map1 0 _ (fun h => rowO.ofBlk h rfl (Nat.le_of_ble_eq_true (by kernel_rfl))) (fun _ h => by obtain ⟨_, h1, h2⟩ := h; injection h1 with h1; subst h1; exact h2) [1, 2] (by decide) (by decide)
          obtain ⟨t3294, ht3295, hx3287⟩ := bind_some hx3287
          refine WL.call (some 29) 51 #[(.slice (some ⟨g3289, 0, none⟩) [(rdD p0 x3260 z_Tile).N, (rdD p0 x3260 z_Tile).E, (rdD p0 x3260 z_Tile).S, (rdD p0 x3260 z_Tile).W].length 4)] (fun fb => by kernel_rfl) (tile_colour_calls _ [(rdD p0 x3260 z_Tile).N, (rdD p0 x3260 z_Tile).E, (rdD p0 x3260 z_Tile).S, (rdD p0 x3260 z_Tile).W] (some ⟨g3289, 0, none⟩) 4 t3294 _ (hS3293.ow 0).ofO ht3295) (fun v w3296 hR3297 => ?_)
          obtain ⟨rfl, hk_⟩ := hR3297
          have hS3298 := hS3293.keepN hk_
          refine ⟨trivial, ?_⟩
          refine seg 16 [] [3, 5, 10, 11, 12, 31] [(3, (.map (some g3125))), (5, (.pointer (some ⟨g3269, 0, none⟩))), (10, (.slice A_p0 p0.length c_p0)), (11, (.int .i64 (p0.length : Int))), (12, (.int .i64 x3260)), (31, (.bool (!t3294)))] [] (fun fb => by kernel_rfl) rfl trivial ?_
          injection hx3287 with hx3287
          exact WL.to K (!t3294) [3, 5, 10, 11, 12, 31] rfl ⟨⟨(hS3298.subR [0]).sub [2, 1] (by decide), hx3287.symm⟩, trivial⟩
        rintro y3299 w3301 ⟨⟨hS3302, hq3300⟩, hF3303⟩
        subst hq3300
        refine WL.done rfl ?_
        refine WX.next ?_
        rcases br_some hl3266 with ⟨h3304, hl3266⟩ | ⟨h3304, hl3266⟩
        · refine WC.condT2 (fun fb => by kernel_rfl) h3304 ?_
          refine WC.seq ?_
          refine WC.region ?_
          refine seg 1 [] [2] [(2, (.bool false))] [] (fun fb => by kernel_rfl) rfl trivial ?_
          refine WL.done rfl ?_
          refine WX.next ?_
          refine WC.ret ?_
          injection hl3266 with hl3266
          subst hl3266
          injection hf with hf
          subst hf
          exact WX.thenR (WX.blockR (WX.thenR (WX.thenR (WX.blockR (WX.thenR (WX.ret_ [] (.bool false) [] (fun fb => by kernel_rfl) trivial ⟨_, rfl, rfl, hS3302.keep⟩))))))
        refine WC.condF2 (fun fb => by kernel_rfl) h3304 ?_
        refine WC.skip ?_
        refine WX.next ?_
        refine WC.region ?_
        refine seg 2 [.v (.int .i64 ((rdD p0 x3260 z_Tile).N)), .v (.int .i64 ((rdD p0 x3260 z_Tile).E)), .v (.int .i64 ((rdD p0 x3260 z_Tile).S)), .v (.int .i64 ((rdD p0 x3260 z_Tile).W))] [3, 10, 11, 12, 32, 33] [(3, (.map (some g3125))), (10, (.slice A_p0 p0.length c_p0)), (11, (.int .i64 (p0.length : Int))), (12, (.int .i64 x3260)), (32, (.map (some g3125))), (33, (.agg #[(.int .i64 ((rdD p0 x3260 z_Tile).N)), (.int .i64 ((rdD p0 x3260 z_Tile).E)), (.int .i64 ((rdD p0 x3260 z_Tile).S)), (.int .i64 ((rdD p0 x3260 z_Tile).W))]))] [.cell ⟨g3269, 0, none⟩ (.int .i64 ((rdD p0 x3260 z_Tile).N)), .cell ⟨g3269, 1, none⟩ (.int .i64 ((rdD p0 x3260 z_Tile).E)), .cell ⟨g3269, 2, none⟩ (.int .i64 ((rdD p0 x3260 z_Tile).S)), .cell ⟨g3269, 3, none⟩ (.int .i64 ((rdD p0 x3260 z_Tile).W))] (fun fb => by kernel_rfl) rfl ⟨hS3302.cell 1 rfl 0 rfl, hS3302.cell 1 rfl 1 rfl, hS3302.cell 1 rfl 2 rfl, hS3302.cell 1 rfl 3 rfl, trivial⟩ ?_
        refine WL.mapput hS3302 0 (t := 68) (kT := 62) (eT := 4) (kE := (aggI ints_Tile)) (vE := vB) (l := l3259) rfl (rdD p0 x3260 z_Tile) true (fun fb => by kernel_rfl) tile_Valid_key62 (by kernel_rfl) [1] (by decide) (by decide) (fun w3305 hS3306 => ?_)
        refine ⟨trivial, ?_⟩
        refine WL.done rfl ?_
        refine WX.blockN (WX.next ?_)
        refine WC.region ?_
        refine seg 2 [] [3, 10, 11, 12] [(3, (.map (some g3125))), (10, (.slice A_p0 p0.length c_p0)), (11, (.int .i64 (p0.length : Int))), (12, (.int .i64 (w64 (x3260 + 1))))] [] (fun fb => by kernel_rfl) rfl trivial ?_
        refine WL.done rfl ?_
        exact WX.again k3263 (Nat.lt_succ_self _) (mput (rdD p0 x3260 z_Tile) true l3259, w64 (x3260 + 1)) [3, 10, 11, 12] rfl ⟨(hS3306.subR [0]).sub [0] (by decide), hl3266⟩
      refine WC.condF2 (fun fb => by kernel_rfl) h3267 ?_
      refine WC.exit ?_
      injection hl3266 with hl3266
      exact WX.thenX (WX.thenX (WX.blockHere (WX.to Kx3261 () [] rfl ⟨(hS3265.subR [0]).sub [] (by decide), hl3266.symm⟩)))
  rintro y3310 w3307 ⟨hS3308, hq3309⟩
  subst hq3309
  have hf := sum_inr hf
  refine WX.next ?_
  refine WC.seq ?_
  refine WC.region ?_
  refine seg 1 [] [2] [(2, (.bool true))] [] (fun fb => by kernel_rfl) rfl trivial ?_
  refine WL.done rfl ?_
  refine WX.next ?_
  refine WC.ret ?_
  injection hf with hf
  subst hf
  exact WX.ret_ [] (.bool true) [] (fun fb => by kernel_rfl) trivial ⟨_, rfl, rfl, hS3308.keep⟩
theorem tile_write_calls (k : Nat) (p0 : List Tile) (A_p0 : Option Addr) (c_p0 : Nat) (r : ByteArray) (w : World) (hR0 : RO NoS w (rowR enc_Tile A_p0 c_p0 p0)) (hf : tile_write k p0 = some r) :
    CallsR Tryd.prog 43 #[(.slice A_p0 p0.length c_p0)] w (fun v w' => v = (.string r) ∧ Keeps NoS w w') := by
  have hS : St NoS w w [rowR enc_Tile A_p0 c_p0 p0] [] := St.init (ro_cons hR0 (ro_nil _ _))
  refine enter 41 Tryd.func43 rfl Tryd.ntmps43 rfl ?_
  unfold tile_write at hf
  refine WC.seq ?_
  refine WC.region ?_
  refine seg 1 [] [0] [(0, (.slice A_p0 p0.length c_p0))] [] (fun fb => by kernel_rfl) rfl trivial ?_
  refine WL.done rfl ?_
  refine WX.next ?_
  refine WC.seq ?_
  refine WC.region ?_
  refine seg 1 [] [0, 3] [(0, (.slice A_p0 p0.length c_p0)), (3, (.slice none 0 0))] [] (fun fb => by kernel_rfl) rfl trivial ?_
  refine WL.done rfl ?_
  refine WX.next ?_
  refine WC.seq ?_
  refine WC.seq ?_
  refine WC.region ?_
  refine seg 3 [] [3, 9, 10, 11] [(3, (.slice none 0 0)), (9, (.slice A_p0 p0.length c_p0)), (10, (.int .i64 (p0.length : Int))), (11, (.int .i64 0))] [] (fun fb => by kernel_rfl) rfl trivial ?_
  refine WL.done rfl ?_
  refine WX.next ?_
  have hS3709 := hS.nilrow 9 encStr
  obtain ⟨x3717, hx3718, hf⟩ := bind_some hf
  refine WC.cutN (T := (List ByteArray) × (Option Addr) × Nat) (fun t => [(3, (.slice t.2.1 t.1.length t.2.2))]) (fun t w1 => St NoS w w1 [rowR enc_Tile A_p0 c_p0 p0] [rowO 9 encStr t.2.1 t.2.2 t.1] ∧ x3717 = t.1) (fun Kx3717 => ?_) ?_
  ·
    refine WC.block ?_
    refine WC.loop (T := ((List ByteArray) × Int) × (Option Addr) × Nat) (fun t => [(3, (.slice t.2.1 t.1.1.length t.2.2)), (9, (.slice A_p0 p0.length c_p0)), (10, (.int .i64 (p0.length : Int))), (11, (.int .i64 t.1.2))]) (fun n t w1 => St NoS w w1 [rowR enc_Tile A_p0 c_p0 p0] [rowO 9 encStr t.2.1 t.2.2 t.1.1] ∧ tile_write.l0 n t.1.1 t.1.2 p0 = some x3717) k ((([] : List ByteArray), 0), none, 0) [3, 9, 10, 11] rfl ⟨(hS3709.subR [0]).sub [0] (by decide), hx3718⟩ ?_
    rintro k3719 ⟨⟨l3712, x3713⟩, A3710, c3711⟩ w3720 ⟨hS3721, hl3722⟩
    cases k3719 with
    | zero => rw [tile_write.l0] at hl3722; cases hl3722
    | succ k3719 =>
      rw [tile_write.l0] at hl3722
      refine WC.seq ?_
      refine WC.region ?_
      refine seg 1 [] [3, 9, 10, 11, 12] [(3, (.slice A3710 l3712.length c3711)), (9, (.slice A_p0 p0.length c_p0)), (10, (.int .i64 (p0.length : Int))), (11, (.int .i64 x3713)), (12, (.bool (decide (x3713 < (p0.length : Int)))))] [] (fun fb => by kernel_rfl) rfl trivial ?_
      refine WL.done rfl ?_
      refine WX.next ?_
      refine WC.seq ?_
      rcases br_some hl3722 with ⟨h3723, hl3722⟩ | ⟨h3723, hl3722⟩
      · refine WC.condT2 (fun fb => by kernel_rfl) h3723 ?_
        refine WC.skip ?_
        refine WX.next ?_
        refine WC.seq ?_
        refine WC.block ?_
        refine WC.seq ?_
        refine WC.region ?_
        obtain ⟨h3724, hl3722⟩ := as_some hl3722
        refine seg 2 [.v (.int .i64 ((rdD p0 x3713 z_Tile).N)), .v (.int .i64 ((rdD p0 x3713 z_Tile).E)), .v (.int .i64 ((rdD p0 x3713 z_Tile).S)), .v (.int .i64 ((rdD p0 x3713 z_Tile).W))] [3, 9, 10, 11, 14] [(3, (.slice A3710 l3712.length c3711)), (9, (.slice A_p0 p0.length c_p0)), (10, (.int .i64 (p0.length : Int))), (11, (.int .i64 x3713)), (14, (.agg #[(.int .i64 ((rdD p0 x3713 z_Tile).N)), (.int .i64 ((rdD p0 x3713 z_Tile).E)), (.int .i64 ((rdD p0 x3713 z_Tile).S)), (.int .i64 ((rdD p0 x3713 z_Tile).W))]))] [.idx A_p0 x3713 p0.length, .cell ((adr A_p0).add ((x3713).toNat * 4)) (.int .i64 ((rdD p0 x3713 z_Tile).N)), .cell (((adr A_p0).add ((x3713).toNat * 4)).add 1) (.int .i64 ((rdD p0 x3713 z_Tile).E)), .cell (((adr A_p0).add ((x3713).toNat * 4)).add 2) (.int .i64 ((rdD p0 x3713 z_Tile).S)), .cell (((adr A_p0).add ((x3713).toNat * 4)).add 3) (.int .i64 ((rdD p0 x3713 z_Tile).W))] (fun fb => by kernel_rfl) rfl ⟨rowR.adr (hS3721.rd 0).1 h3724.1 h3724.2, rowR.cell (hS3721.rd 0).1 z_Tile h3724.1 h3724.2 0 rfl, rowR.cell (hS3721.rd 0).1 z_Tile h3724.1 h3724.2 1 rfl, rowR.cell (hS3721.rd 0).1 z_Tile h3724.1 h3724.2 2 rfl, rowR.cell (hS3721.rd 0).1 z_Tile h3724.1 h3724.2 3 rfl, trivial⟩ ?_
        refine WL.new hS3721 5 [] (fun g => (.pointer (some ⟨g, 0, none⟩))) (.cells #[(.int .i64 0), (.int .i64 0), (.int .i64 0), (.int .i64 0)] 62 (0, 0)) [] (fun fb g => by kernel_rfl) trivial (fun g3725 w3726 hS3727 => ?_)
        refine ⟨trivial, ?_⟩
        refine WL.store hS3727 0 rfl [(0, (.int .i64 ((rdD p0 x3713 z_Tile).N))), (1, (.int .i64 ((rdD p0 x3713 z_Tile).E))), (2, (.int .i64 ((rdD p0 x3713 z_Tile).S))), (3, (.int .i64 ((rdD p0 x3713 z_Tile).W)))] #[(.int .i64 ((rdD p0 x3713 z_Tile).N)), (.int .i64 ((rdD p0 x3713 z_Tile).E)), (.int .i64 ((rdD p0 x3713 z_Tile).S)), (.int .i64 ((rdD p0 x3713 z_Tile).W))] (fun fb => by kernel_rfl) (by kernel_rfl) rfl [1] (by decide) (by decide) (fun w3729 hS3730 => ?_)
        refine ⟨trivial, ?_⟩
        refine WL.done rfl ?_
        refine WX.next ?_
        refine WC.seq ?_
        refine WC.region ?_
        refine seg 1 [] [3, 5, 6, 9, 10, 11] [(3, (.slice A3710 l3712.length c3711)), (5, (.pointer (some ⟨g3725, 0, none⟩))), (6, (.slice none 0 0)), (9, (.slice A_p0 p0.length c_p0)), (10, (.int .i64 (p0.length : Int))), (11, (.int .i64 x3713))] [] (fun fb => by kernel_rfl) rfl trivial ?_
        refine WL.done rfl ?_
        refine WX.next ?_
        refine WC.seq ?_
        refine WC.seq ?_
        refine WC.region ?_
        refine seg 10 [.v (.int .i64 ((rdD p0 x3713 z_Tile).N)), .v (.int .i64 ((rdD p0 x3713 z_Tile).E)), .v (.int .i64 ((rdD p0 x3713 z_Tile).S)), .v (.int .i64 ((rdD p0 x3713 z_Tile).W))] [3, 6, 9, 10, 11, 23, 24] [(3, (.slice A3710 l3712.length c3711)), (6, (.slice none 0 0)), (9, (.slice A_p0 p0.length c_p0)), (10, (.int .i64 (p0.length : Int))), (11, (.int .i64 x3713)), (23, (.agg #[(.int .i64 ((rdD p0 x3713 z_Tile).N)), (.int .i64 ((rdD p0 x3713 z_Tile).E)), (.int .i64 ((rdD p0 x3713 z_Tile).S)), (.int .i64 ((rdD p0 x3713 z_Tile).W))])), (24, (.int .i64 0))] [.cell ⟨g3725, 0, none⟩ (.int .i64 ((rdD p0 x3713 z_Tile).N)), .cell ⟨g3725, 1, none⟩ (.int .i64 ((rdD p0 x3713 z_Tile).E)), .cell ⟨g3725, 2, none⟩ (.int .i64 ((rdD p0 x3713 z_Tile).S)), .cell ⟨g3725, 3, none⟩ (.int .i64 ((rdD p0 x3713 z_Tile).W))] (fun fb => by kernel_rfl) rfl ⟨hS3730.cell 0 rfl 0 rfl, hS3730.cell 0 rfl 1 rfl, hS3730.cell 0 rfl 2 rfl, hS3730.cell 0 rfl 3 rfl, trivial⟩ ?_
        refine WL.done rfl ?_
        refine WX.next ?_
        have hS3818 := hS3730.nilrow 9 encStr
        obtain ⟨x3826, hx3827, hl3722⟩ := bind_some hl3722
        refine WC.cutN (T := (List ByteArray) × (Option Addr) × Nat) (fun t => [(3, (.slice A3710 l3712.length c3711)), (6, (.slice t.2.1 t.1.length t.2.2)), (9, (.slice A_p0 p0.length c_p0)), (10, (.int .i64 (p0.length : Int))), (11, (.int .i64 x3713))]) (fun t w1 => St NoS w w1 [rowR enc_Tile A_p0 c_p0 p0] [rowO 9 encStr A3710 c3711 l3712, rowO 9 encStr t.2.1 t.2.2 t.1] ∧ x3826 = t.1) (fun Kx3826 => ?_) ?_
        ·
          refine WC.block ?_
          refine WC.loop (T := ((List ByteArray) × Int) × (Option Addr) × Nat) (fun t => [(3, (.slice A3710 l3712.length c3711)), (6, (.slice t.2.1 t.1.1.length t.2.2)), (9, (.slice A_p0 p0.length c_p0)), (10, (.int .i64 (p0.length : Int))), (11, (.int .i64 x3713)), (23, (.agg #[(.int .i64 ((rdD p0 x3713 z_Tile).N)), (.int .i64 ((rdD p0 x3713 z_Tile).E)), (.int .i64 ((rdD p0 x3713 z_Tile).S)), (.int .i64 ((rdD p0 x3713 z_Tile).W))])), (24, (.int .i64 t.1.2))]) (fun n t w1 => St NoS w w1 [rowR enc_Tile A_p0 c_p0 p0] [rowO 9 encStr A3710 c3711 l3712, rowO 9 encStr t.2.1 t.2.2 t.1.1] ∧ tile_write.l1 n t.1.1 t.1.2 p0 x3713 = some x3826) k3719 ((([] : List ByteArray), 0), none, 0) [3, 6, 9, 10, 11, 23, 24] rfl ⟨(hS3818.subR [0]).sub [2, 0] (by decide), hx3827⟩ ?_
          rintro k3828 ⟨⟨l3821, x3822⟩, A3819, c3820⟩ w3829 ⟨hS3830, hl3831⟩
          cases k3828 with
          | zero => rw [tile_write.l1] at hl3831; cases hl3831
          | succ k3828 =>
            rw [tile_write.l1] at hl3831
            refine WC.seq ?_
            refine WC.region ?_
            refine seg 1 [] [3, 6, 9, 10, 11, 23, 24, 25] [(3, (.slice A3710 l3712.length c3711)), (6, (.slice A3819 l3821.length c3820)), (9, (.slice A_p0 p0.length c_p0)), (10, (.int .i64 (p0.length : Int))), (11, (.int .i64 x3713)), (23, (.agg #[(.int .i64 ((rdD p0 x3713 z_Tile).N)), (.int .i64 ((rdD p0 x3713 z_Tile).E)), (.int .i64 ((rdD p0 x3713 z_Tile).S)), (.int .i64 ((rdD p0 x3713 z_Tile).W))])), (24, (.int .i64 x3822)), (25, (.bool (decide (x3822 < 4))))] [] (fun fb => by kernel_rfl) rfl trivial ?_
            refine WL.done rfl ?_
            refine WX.next ?_
            refine WC.seq ?_
            rcases br_some hl3831 with ⟨h3832, hl3831⟩ | ⟨h3832, hl3831⟩
            · refine WC.condT2 (fun fb => by kernel_rfl) h3832 ?_
              refine WC.skip ?_
              refine WX.next ?_
              refine WC.seq ?_
              refine WC.block ?_
              refine WC.seq ?_
              refine WC.region ?_
              rcases br_some hl3831 with ⟨h3833, hl3831⟩ | ⟨h3833, hl3831⟩
              ·
                refine WL.setI 24 (eq_of_beq h3833) rfl ?_
                refine seg 1 [] [3, 6, 9, 10, 11, 23, 24, 26] [(3, (.slice A3710 l3712.length c3711)), (6, (.slice A3819 l3821.length c3820)), (9, (.slice A_p0 p0.length c_p0)), (10, (.int .i64 (p0.length : Int))), (11, (.int .i64 x3713)), (23, (.agg #[(.int .i64 ((rdD p0 x3713 z_Tile).N)), (.int .i64 ((rdD p0 x3713 z_Tile).E)), (.int .i64 ((rdD p0 x3713 z_Tile).S)), (.int .i64 ((rdD p0 x3713 z_Tile).W))])), (24, (.int .i64 0)), (26, (.int .i64 ((rdD p0 x3713 z_Tile).N)))] [] (fun fb => by kernel_rfl) rfl trivial ?_
                refine WL.setI 24 (eq_of_beq h3833).symm rfl ?_
                refine seg 2 [] [3, 6, 8, 9, 10, 11, 23, 24] [(3, (.slice A3710 l3712.length c3711)), (6, (.slice A3819 l3821.length c3820)), (8, (.int .i64 ((rdD p0 x3713 z_Tile).N))), (9, (.slice A_p0 p0.length c_p0)), (10, (.int .i64 (p0.length : Int))), (11, (.int .i64 x3713)), (23, (.agg #[(.int .i64 ((rdD p0 x3713 z_Tile).N)), (.int .i64 ((rdD p0 x3713 z_Tile).E)), (.int .i64 ((rdD p0 x3713 z_Tile).S)), (.int .i64 ((rdD p0 x3713 z_Tile).W))])), (24, (.int .i64 x3822))] [] (fun fb => by kernel_rfl) rfl trivial ?_
                refine WL.done rfl ?_
                refine WX.next ?_
                refine WC.region ?_
                refine seg 2 [] [3, 9, 10, 11, 23, 24, 27, 28] [(3, (.slice A3710 l3712.length c3711)), (9, (.slice A_p0 p0.length c_p0)), (10, (.int .i64 (p0.length : Int))), (11, (.int .i64 x3713)), (23, (.agg #[(.int .i64 ((rdD p0 x3713 z_Tile).N)), (.int .i64 ((rdD p0 x3713 z_Tile).E)), (.int .i64 ((rdD p0 x3713 z_Tile).S)), (.int .i64 ((rdD p0 x3713 z_Tile).W))])), (24, (.int .i64 x3822)), (27, (.slice A3819 l3821.length c3820)), (28, (.int .i64 ((rdD p0 x3713 z_Tile).N)))] [] (fun fb => by kernel_rfl) rfl trivial ?_
                obtain ⟨t3837, ht3838, hl3831⟩ := bind_some hl3831
                refine WL.call (some 29) 60 #[(.int .i64 ((rdD p0 x3713 z_Tile).N))] (fun fb => by kernel_rfl) (itoa_calls Tryd.strconv_Itoa_small ((rdD p0 x3713 z_Tile).N) t3837 _ ht3838) (fun v w3835 hR3834 => ?_)
                obtain ⟨rfl, hk_⟩ := hR3834
                have hS3836 := hS3830.keepN hk_
                refine ⟨trivial, ?_⟩
                refine WL.new hS3836 30 [] (fun g => (.slice (some ⟨g, 0, none⟩) 1 1)) (.cells #[(.string t3837)] 9 (0, 0)) [] (fun fb g => by kernel_rfl) trivial (fun g3839 w3840 hS3841 => ?_)
                refine ⟨trivial, ?_⟩
                have hS3843 : St NoS w w3840 [rowR enc_Tile A_p0 c_p0 p0] [rowO 9 encStr (some ⟨g3839, 0, none⟩) 1 [t3837], rowO 9 encStr A3710 c3711 l3712, rowO 9 encStr A3819 c3820 l3821] := hS3841.map1 0 _ (fun h => rowO.ofBlk h rfl (Nat.le_of_ble_eq_true (by kernel_rfl))) (fun _ h => by obtain ⟨_, h1, h2⟩ := h; injection h1 with h1; subst h1; exact h2) [1, 2] (by decide) (by decide)
                obtain ⟨h3844, hl3831⟩ := as_some hl3831
                refine WL.append hS3843 2 (d := 31) (tS := 54) (z := (.string ByteArray.empty)) (bytes := 16) (c2 := 1) rfl (fun fb => by kernel_rfl) (rowO.rd (hS3843.own 0).1) (by kernel_rfl) (by kernel_rfl) rfl (by decide) h3844 (by decide) [0, 1] (by decide) (by decide) (fun A3845 c3846 w3847 hS3848 => ?_)
                refine ⟨trivial, ?_⟩
                refine seg 6 [] [3, 6, 9, 10, 11, 23, 24] [(3, (.slice A3710 l3712.length c3711)), (6, (.slice A3845 (l3821 ++ [t3837]).length c3846)), (9, (.slice A_p0 p0.length c_p0)), (10, (.int .i64 (p0.length : Int))), (11, (.int .i64 x3713)), (23, (.agg #[(.int .i64 ((rdD p0 x3713 z_Tile).N)), (.int .i64 ((rdD p0 x3713 z_Tile).E)), (.int .i64 ((rdD p0 x3713 z_Tile).S)), (.int .i64 ((rdD p0 x3713 z_Tile).W))])), (24, (.int .i64 x3822))] [] (fun fb => by kernel_rfl) rfl trivial ?_
                refine WL.done rfl ?_
                refine WX.blockN (WX.next ?_)
                refine WC.region ?_
                refine seg 2 [] [3, 6, 9, 10, 11, 23, 24] [(3, (.slice A3710 l3712.length c3711)), (6, (.slice A3845 (l3821 ++ [t3837]).length c3846)), (9, (.slice A_p0 p0.length c_p0)), (10, (.int .i64 (p0.length : Int))), (11, (.int .i64 x3713)), (23, (.agg #[(.int .i64 ((rdD p0 x3713 z_Tile).N)), (.int .i64 ((rdD p0 x3713 z_Tile).E)), (.int .i64 ((rdD p0 x3713 z_Tile).S)), (.int .i64 ((rdD p0 x3713 z_Tile).W))])), (24, (.int .i64 (w64 (x3822 + 1))))] [] (fun fb => by kernel_rfl) rfl trivial ?_
                refine WL.done rfl ?_
                exact WX.again k3828 (Nat.lt_succ_self _) ((l3821 ++ [t3837], w64 (x3822 + 1)), A3845, c3846) [3, 6, 9, 10, 11, 23, 24] rfl ⟨(hS3848.subR [0]).sub [2, 0] (by decide), hl3831⟩
              rcases br_some hl3831 with ⟨h3849, hl3831⟩ | ⟨h3849, hl3831⟩
              ·
                refine WL.setI 24 (eq_of_beq h3849) rfl ?_
                refine seg 1 [] [3, 6, 9, 10, 11, 23, 24, 26] [(3, (.slice A3710 l3712.length c3711)), (6, (.slice A3819 l3821.length c3820)), (9, (.slice A_p0 p0.length c_p0)), (10, (.int .i64 (p0.length : Int))), (11, (.int .i64 x3713)), (23, (.agg #[(.int .i64 ((rdD p0 x3713 z_Tile).N)), (.int .i64 ((rdD p0 x3713 z_Tile).E)), (.int .i64 ((rdD p0 x3713 z_Tile).S)), (.int .i64 ((rdD p0 x3713 z_Tile).W))])), (24, (.int .i64 1)), (26, (.int .i64 ((rdD p0 x3713 z_Tile).E)))] [] (fun fb => by kernel_rfl) rfl trivial ?_
                refine WL.setI 24 (eq_of_beq h3849).symm rfl ?_
                refine seg 2 [] [3, 6, 8, 9, 10, 11, 23, 24] [(3, (.slice A3710 l3712.length c3711)), (6, (.slice A3819 l3821.length c3820)), (8, (.int .i64 ((rdD p0 x3713 z_Tile).E))), (9, (.slice A_p0 p0.length c_p0)), (10, (.int .i64 (p0.length : Int))), (11, (.int .i64 x3713)), (23, (.agg #[(.int .i64 ((rdD p0 x3713 z_Tile).N)), (.int .i64 ((rdD p0 x3713 z_Tile).E)), (.int .i64 ((rdD p0 x3713 z_Tile).S)), (.int .i64 ((rdD p0 x3713 z_Tile).W))])), (24, (.int .i64 x3822))] [] (fun fb => by kernel_rfl) rfl trivial ?_
                refine WL.done rfl ?_
                refine WX.next ?_
                refine WC.region ?_
                refine seg 2 [] [3, 9, 10, 11, 23, 24, 27, 28] [(3, (.slice A3710 l3712.length c3711)), (9, (.slice A_p0 p0.length c_p0)), (10, (.int .i64 (p0.length : Int))), (11, (.int .i64 x3713)), (23, (.agg #[(.int .i64 ((rdD p0 x3713 z_Tile).N)), (.int .i64 ((rdD p0 x3713 z_Tile).E)), (.int .i64 ((rdD p0 x3713 z_Tile).S)), (.int .i64 ((rdD p0 x3713 z_Tile).W))])), (24, (.int .i64 x3822)), (27, (.slice A3819 l3821.length c3820)), (28, (.int .i64 ((rdD p0 x3713 z_Tile).E)))] [] (fun fb => by kernel_rfl) rfl trivial ?_
                obtain ⟨t3853, ht3854, hl3831⟩ := bind_some hl3831
                refine WL.call (some 29) 60 #[(.int .i64 ((rdD p0 x3713 z_Tile).E))] (fun fb => by kernel_rfl) (itoa_calls Tryd.strconv_Itoa_small ((rdD p0 x3713 z_Tile).E) t3853 _ ht3854) (fun v w3851 hR3850 => ?_)
                obtain ⟨rfl, hk_⟩ := hR3850
                have hS3852 := hS3830.keepN hk_
                refine ⟨trivial, ?_⟩
                refine WL.new hS3852 30 [] (fun g => (.slice (some ⟨g, 0, none⟩) 1 1)) (.cells #[(.string t3853)] 9 (0, 0)) [] (fun fb g => by kernel_rfl) trivial (fun g3855 w3856 hS3857 => ?_)
                refine ⟨trivial, ?_⟩
                have hS3859 : St NoS w w3856 [rowR enc_Tile A_p0 c_p0 p0] [rowO 9 encStr (some ⟨g3855, 0, none⟩) 1 [t3853], rowO 9 encStr A3710 c3711 l3712, rowO 9 encStr A3819 c3820 l3821] := hS3857.map1 0 _ (fun h => rowO.ofBlk h rfl (Nat.le_of_ble_eq_true (by kernel_rfl))) (fun _ h => by obtain ⟨_, h1, h2⟩ := h; injection h1 with h1; subst h1; exact h2) [1, 2] (by decide) (by decide)
                obtain ⟨h3860, hl3831⟩ := as_some hl3831
                refine WL.append hS3859 2 (d := 31) (tS := 54) (z := (.string ByteArray.empty)) (bytes := 16) (c2 := 1) rfl (fun fb => by kernel_rfl) (rowO.rd (hS3859.own 0).1) (by kernel_rfl) (by kernel_rfl) rfl (by decide) h3860 (by decide) [0, 1] (by decide) (by decide) (fun A3861 c3862 w3863 hS3864 => ?_)
                refine ⟨trivial, ?_⟩
                refine seg 6 [] [3, 6, 9, 10, 11, 23, 24] [(3, (.slice A3710 l3712.length c3711)), (6, (.slice A3861 (l3821 ++ [t3853]).length c3862)), (9, (.slice A_p0 p0.length c_p0)), (10, (.int .i64 (p0.length : Int))), (11, (.int .i64 x3713)), (23, (.agg #[(.int .i64 ((rdD p0 x3713 z_Tile).N)), (.int .i64 ((rdD p0 x3713 z_Tile).E)), (.int .i64 ((rdD p0 x3713 z_Tile).S)), (.int .i64 ((rdD p0 x3713 z_Tile).W))])), (24, (.int .i64 x3822))] [] (fun fb => by kernel_rfl) rfl trivial ?_
                refine WL.done rfl ?_
                refine WX.blockN (WX.next ?_)
                refine WC.region ?_
                refine seg 2 [] [3, 6, 9, 10, 11, 23, 24] [(3, (.slice A3710 l3712.length c3711)), (6, (.slice A3861 (l3821 ++ [t3853]).length c3862)), (9, (.slice A_p0 p0.length c_p0)), (10, (.int .i64 (p0.length : Int))), (11, (.int .i64 x3713)), (23, (.agg #[(.int .i64 ((rdD p0 x3713 z_Tile).N)), (.int .i64 ((rdD p0 x3713 z_Tile).E)), (.int .i64 ((rdD p0 x3713 z_Tile).S)), (.int .i64 ((rdD p0 x3713 z_Tile).W))])), (24, (.int .i64 (w64 (x3822 + 1))))] [] (fun fb => by kernel_rfl) rfl trivial ?_
                refine WL.done rfl ?_
                exact WX.again k3828 (Nat.lt_succ_self _) ((l3821 ++ [t3853], w64 (x3822 + 1)), A3861, c3862) [3, 6, 9, 10, 11, 23, 24] rfl ⟨(hS3864.subR [0]).sub [2, 0] (by decide), hl3831⟩
              rcases br_some hl3831 with ⟨h3865, hl3831⟩ | ⟨h3865, hl3831⟩
              ·
                refine WL.setI 24 (eq_of_beq h3865) rfl ?_
                refine seg 1 [] [3, 6, 9, 10, 11, 23, 24, 26] [(3, (.slice A3710 l3712.length c3711)), (6, (.slice A3819 l3821.length c3820)), (9, (.slice A_p0 p0.length c_p0)), (10, (.int .i64 (p0.length : Int))), (11, (.int .i64 x3713)), (23, (.agg #[(.int .i64 ((rdD p0 x3713 z_Tile).N)), (.int .i64 ((rdD p0 x3713 z_Tile).E)), (.int .i64 ((rdD p0 x3713 z_Tile).S)), (.int .i64 ((rdD p0 x3713 z_Tile).W))])), (24, (.int .i64 2)), (26, (.int .i64 ((rdD p0 x3713 z_Tile).S)))] [] (fun fb => by kernel_rfl) rfl trivial ?_
                refine WL.setI 24 (eq_of_beq h3865).symm rfl ?_
                refine seg 2 [] [3, 6, 8, 9, 10, 11, 23, 24] [(3, (.slice A3710 l3712.length c3711)), (6, (.slice A3819 l3821.length c3820)), (8, (.int .i64 ((rdD p0 x3713 z_Tile).S))), (9, (.slice A_p0 p0.length c_p0)), (10, (.int .i64 (p0.length : Int))), (11, (.int .i64 x3713)), (23, (.agg #[(.int .i64 ((rdD p0 x3713 z_Tile).N)), (.int .i64 ((rdD p0 x3713 z_Tile).E)), (.int .i64 ((rdD p0 x3713 z_Tile).S)), (.int .i64 ((rdD p0 x3713 z_Tile).W))])), (24, (.int .i64 x3822))] [] (fun fb => by kernel_rfl) rfl trivial ?_
                refine WL.done rfl ?_
                refine WX.next ?_
                refine WC.region ?_
                refine seg 2 [] [3, 9, 10, 11, 23, 24, 27, 28] [(3, (.slice A3710 l3712.length c3711)), (9, (.slice A_p0 p0.length c_p0)), (10, (.int .i64 (p0.length : Int))), (11, (.int .i64 x3713)), (23, (.agg #[(.int .i64 ((rdD p0 x3713 z_Tile).N)), (.int .i64 ((rdD p0 x3713 z_Tile).E)), (.int .i64 ((rdD p0 x3713 z_Tile).S)), (.int .i64 ((rdD p0 x3713 z_Tile).W))])), (24, (.int .i64 x3822)), (27, (.slice A3819 l3821.length c3820)), (28, (.int .i64 ((rdD p0 x3713 z_Tile).S)))] [] (fun fb => by kernel_rfl) rfl trivial ?_
                obtain ⟨t3869, ht3870, hl3831⟩ := bind_some hl3831
                refine WL.call (some 29) 60 #[(.int .i64 ((rdD p0 x3713 z_Tile).S))] (fun fb => by kernel_rfl) (itoa_calls Tryd.strconv_Itoa_small ((rdD p0 x3713 z_Tile).S) t3869 _ ht3870) (fun v w3867 hR3866 => ?_)
                obtain ⟨rfl, hk_⟩ := hR3866
                have hS3868 := hS3830.keepN hk_
                refine ⟨trivial, ?_⟩
                refine WL.new hS3868 30 [] (fun g => (.slice (some ⟨g, 0, none⟩) 1 1)) (.cells #[(.string t3869)] 9 (0, 0)) [] (fun fb g => by kernel_rfl) trivial (fun g3871 w3872 hS3873 => ?_)
                refine ⟨trivial, ?_⟩
                have hS3875 : St NoS w w3872 [rowR enc_Tile A_p0 c_p0 p0] [rowO 9 encStr (some ⟨g3871, 0, none⟩) 1 [t3869], rowO 9 encStr A3710 c3711 l3712, rowO 9 encStr A3819 c3820 l3821] := hS3873.map1 0 _ (fun h => rowO.ofBlk h rfl (Nat.le_of_ble_eq_true (by kernel_rfl))) (fun _ h => by obtain ⟨_, h1, h2⟩ := h; injection h1 with h1; subst h1; exact h2) [1, 2] (by decide) (by decide)
                obtain ⟨h3876, hl3831⟩ := as_some hl3831
                refine WL.append hS3875 2 (d := 31) (tS := 54) (z := (.string ByteArray.empty)) (bytes := 16) (c2 := 1) rfl (fun fb => by kernel_rfl) (rowO.rd (hS3875.own 0).1) (by kernel_rfl) (by kernel_rfl) rfl (by decide) h3876 (by decide) [0, 1] (by decide) (by decide) (fun A3877 c3878 w3879 hS3880 => ?_)
                refine ⟨trivial, ?_⟩
                refine seg 6 [] [3, 6, 9, 10, 11, 23, 24] [(3, (.slice A3710 l3712.length c3711)), (6, (.slice A3877 (l3821 ++ [t3869]).length c3878)), (9, (.slice A_p0 p0.length c_p0)), (10, (.int .i64 (p0.length : Int))), (11, (.int .i64 x3713)), (23, (.agg #[(.int .i64 ((rdD p0 x3713 z_Tile).N)), (.int .i64 ((rdD p0 x3713 z_Tile).E)), (.int .i64 ((rdD p0 x3713 z_Tile).S)), (.int .i64 ((rdD p0 x3713 z_Tile).W))])), (24, (.int .i64 x3822))] [] (fun fb => by kernel_rfl) rfl trivial ?_
                refine WL.done rfl ?_
                refine WX.blockN (WX.next ?_)
                refine WC.region ?_
                refine seg 2 [] [3, 6, 9, 10, 11, 23, 24] [(3, (.slice A3710 l3712.length c3711)), (6, (.slice A3877 (l3821 ++ [t3869]).length c3878)), (9, (.slice A_p0 p0.length c_p0)), (10, (.int .i64 (p0.length : Int))), (11, (.int .i64 x3713)), (23, (.agg #[(.int .i64 ((rdD p0 x3713 z_Tile).N)), (.int .i64 ((rdD p0 x3713 z_Tile).E)), (.int .i64 ((rdD p0 x3713 z_Tile).S)), (.int .i64 ((rdD p0 x3713 z_Tile).W))])), (24, (.int .i64 (w64 (x3822 + 1))))] [] (fun fb => by kernel_rfl) rfl trivial ?_
                refine WL.done rfl ?_
                exact WX.again k3828 (Nat.lt_succ_self _) ((l3821 ++ [t3869], w64 (x3822 + 1)), A3877, c3878) [3, 6, 9, 10, 11, 23, 24] rfl ⟨(hS3880.subR [0]).sub [2, 0] (by decide), hl3831⟩
              rcases br_some hl3831 with ⟨h3881, hl3831⟩ | ⟨h3881, hl3831⟩
              ·
                refine WL.setI 24 (eq_of_beq h3881) rfl ?_
                refine seg 1 [] [3, 6, 9, 10, 11, 23, 24, 26] [(3, (.slice A3710 l3712.length c3711)), (6, (.slice A3819 l3821.length c3820)), (9, (.slice A_p0 p0.length c_p0)), (10, (.int .i64 (p0.length : Int))), (11, (.int .i64 x3713)), (23, (.agg #[(.int .i64 ((rdD p0 x3713 z_Tile).N)), (.int .i64 ((rdD p0 x3713 z_Tile).E)), (.int .i64 ((rdD p0 x3713 z_Tile).S)), (.int .i64 ((rdD p0 x3713 z_Tile).W))])), (24, (.int .i64 3)), (26, (.int .i64 ((rdD p0 x3713 z_Tile).W)))] [] (fun fb => by kernel_rfl) rfl trivial ?_
                refine WL.setI 24 (eq_of_beq h3881).symm rfl ?_
                refine seg 2 [] [3, 6, 8, 9, 10, 11, 23, 24] [(3, (.slice A3710 l3712.length c3711)), (6, (.slice A3819 l3821.length c3820)), (8, (.int .i64 ((rdD p0 x3713 z_Tile).W))), (9, (.slice A_p0 p0.length c_p0)), (10, (.int .i64 (p0.length : Int))), (11, (.int .i64 x3713)), (23, (.agg #[(.int .i64 ((rdD p0 x3713 z_Tile).N)), (.int .i64 ((rdD p0 x3713 z_Tile).E)), (.int .i64 ((rdD p0 x3713 z_Tile).S)), (.int .i64 ((rdD p0 x3713 z_Tile).W))])), (24, (.int .i64 x3822))] [] (fun fb => by kernel_rfl) rfl trivial ?_
                refine WL.done rfl ?_
                refine WX.next ?_
                refine WC.region ?_
                refine seg 2 [] [3, 9, 10, 11, 23, 24, 27, 28] [(3, (.slice A3710 l3712.length c3711)), (9, (.slice A_p0 p0.length c_p0)), (10, (.int .i64 (p0.length : Int))), (11, (.int .i64 x3713)), (23, (.agg #[(.int .i64 ((rdD p0 x3713 z_Tile).N)), (.int .i64 ((rdD p0 x3713 z_Tile).E)), (.int .i64 ((rdD p0 x3713 z_Tile).S)), (.int .i64 ((rdD p0 x3713 z_Tile).W))])), (24, (.int .i64 x3822)), (27, (.slice A3819 l3821.length c3820)), (28, (.int .i64 ((rdD p0 x3713 z_Tile).W)))] [] (fun fb => by kernel_rfl) rfl trivial ?_
                obtain ⟨t3885, ht3886, hl3831⟩ := bind_some hl3831
                refine WL.call (some 29) 60 #[(.int .i64 ((rdD p0 x3713 z_Tile).W))] (fun fb => by kernel_rfl) (itoa_calls Tryd.strconv_Itoa_small ((rdD p0 x3713 z_Tile).W) t3885 _ ht3886) (fun v w3883 hR3882 => ?_)
                obtain ⟨rfl, hk_⟩ := hR3882
                have hS3884 := hS3830.keepN hk_
                refine ⟨trivial, ?_⟩
                refine WL.new hS3884 30 [] (fun g => (.slice (some ⟨g, 0, none⟩) 1 1)) (.cells #[(.string t3885)] 9 (0, 0)) [] (fun fb g => by kernel_rfl) trivial (fun g3887 w3888 hS3889 => ?_)
                refine ⟨trivial, ?_⟩
                have hS3891 : St NoS w w3888 [rowR enc_Tile A_p0 c_p0 p0] [rowO 9 encStr (some ⟨g3887, 0, none⟩) 1 [t3885], rowO 9 encStr A3710 c3711 l3712, rowO 9 encStr A3819 c3820 l3821] := hS3889.map1 0 _ (fun h => rowO.ofBlk h rfl (Nat.le_of_ble_eq_true (by kernel_rfl))) (fun _ h => by obtain ⟨_, h1, h2⟩ := h; injection h1 with h1; subst h1; exact h2) [1, 2] (by decide) (by decide)
                obtain ⟨h3892, hl3831⟩ := as_some hl3831
                refine WL.append hS3891 2 (d := 31) (tS := 54) (z := (.string ByteArray.empty)) (bytes := 16) (c2 := 1) rfl (fun fb => by kernel_rfl) (rowO.rd (hS3891.own 0).1) (by kernel_rfl) (by kernel_rfl) rfl (by decide) h3892 (by decide) [0, 1] (by decide) (by decide) (fun A3893 c3894 w3895 hS3896 => ?_)
                refine ⟨trivial, ?_⟩
                refine seg 6 [] [3, 6, 9, 10, 11, 23, 24] [(3, (.slice A3710 l3712.length c3711)), (6, (.slice A3893 (l3821 ++ [t3885]).length c3894)), (9, (.slice A_p0 p0.length c_p0)), (10, (.int .i64 (p0.length : Int))), (11, (.int .i64 x3713)), (23, (.agg #[(.int .i64 ((rdD p0 x3713 z_Tile).N)), (.int .i64 ((rdD p0 x3713 z_Tile).E)), (.int .i64 ((rdD p0 x3713 z_Tile).S)), (.int .i64 ((rdD p0 x3713 z_Tile).W))])), (24, (.int .i64 x3822))] [] (fun fb => by kernel_rfl) rfl trivial ?_
                refine WL.done rfl ?_
                refine WX.blockN (WX.next ?_)
                refine WC.region ?_
                refine seg 2 [] [3, 6, 9, 10, 11, 23, 24] [(3, (.slice A3710 l3712.length c3711)), (6, (.slice A3893 (l3821 ++ [t3885]).length c3894)), (9, (.slice A_p0 p0.length c_p0)), (10, (.int .i64 (p0.length : Int))), (11, (.int .i64 x3713)), (23, (.agg #[(.int .i64 ((rdD p0 x3713 z_Tile).N)), (.int .i64 ((rdD p0 x3713 z_Tile).E)), (.int .i64 ((rdD p0 x3713 z_Tile).S)), (.int .i64 ((rdD p0 x3713 z_Tile).W))])), (24, (.int .i64 (w64 (x3822 + 1))))] [] (fun fb => by kernel_rfl) rfl trivial ?_
                refine WL.done rfl ?_
                exact WX.again k3828 (Nat.lt_succ_self _) ((l3821 ++ [t3885], w64 (x3822 + 1)), A3893, c3894) [3, 6, 9, 10, 11, 23, 24] rfl ⟨(hS3896.subR [0]).sub [2, 0] (by decide), hl3831⟩
              cases hl3831
            refine WC.condF2 (fun fb => by kernel_rfl) h3832 ?_
            refine WC.exit ?_
            injection hl3831 with hl3831
            exact WX.thenX (WX.thenX (WX.blockHere (WX.to Kx3826 (l3821, A3819, c3820) [3, 6, 9, 10, 11] rfl ⟨(hS3830.subR [0]).sub [0, 1] (by decide), hl3831.symm⟩)))
        rintro ⟨y3900, A3823, c3824⟩ w3897 ⟨hS3898, hq3899⟩
        subst hq3899
        refine WX.next ?_
        refine WC.region ?_
        refine seg 2 [] [9, 10, 11, 33, 34] [(9, (.slice A_p0 p0.length c_p0)), (10, (.int .i64 (p0.length : Int))), (11, (.int .i64 x3713)), (33, (.slice A3710 l3712.length c3711)), (34, (.slice A3823 x3826.length c3824))] [] (fun fb => by kernel_rfl) rfl trivial ?_
        obtain ⟨t3904, ht3905, hl3722⟩ := bind_some hl3722
        refine WL.call (some 35) 61 #[(.slice A3823 x3826.length c3824), (.string (⟨#[46]⟩ : ByteArray))] (fun fb => by kernel_rfl) (join_calls Tryd.strings_Join Tryd.strings_Join_none x3826 (⟨#[46]⟩ : ByteArray) A3823 c3824 t3904 _ (hS3898.ow 1) ht3905) (fun v w3902 hR3901 => ?_)
        obtain ⟨rfl, hk_⟩ := hR3901
        have hS3903 := hS3898.keepN hk_
        refine ⟨trivial, ?_⟩
        refine WL.new hS3903 36 [] (fun g => (.slice (some ⟨g, 0, none⟩) 1 1)) (.cells #[(.string t3904)] 9 (0, 0)) [] (fun fb g => by kernel_rfl) trivial (fun g3906 w3907 hS3908 => ?_)
        refine ⟨trivial, ?_⟩
        have hS3910 : St NoS w w3907 [rowR enc_Tile A_p0 c_p0 p0] [rowO 9 encStr (some ⟨g3906, 0, none⟩) 1 [t3904], rowO 9 encStr A3710 c3711 l3712, rowO 9 encStr A3823 c3824 x3826] := hS3908.map1 0 _ (fun h => rowO.ofBlk h rfl (Nat.le_of_ble_eq_true (by kernel_rfl))) (fun _ h => by obtain ⟨_, h1, h2⟩ := h; injection h1 with h1; subst h1; exact h2) [1, 2] (by decide) (by decide)
        obtain ⟨h3911, hl3722⟩ := as_some hl3722
        refine WL.append hS3910 1 (d := 37) (tS := 54) (z := (.string ByteArray.empty)) (bytes := 16) (c2 := 1) rfl (fun fb => by kernel_rfl) (rowO.rd (hS3910.own 0).1) (by kernel_rfl) (by kernel_rfl) rfl (by decide) h3911 (by decide) [0, 2] (by decide) (by decide) (fun A3912 c3913 w3914 hS3915 => ?_)
        refine ⟨trivial, ?_⟩
        refine seg 6 [] [3, 9, 10, 11] [(3, (.slice A3912 (l3712 ++ [t3904]).length c3913)), (9, (.slice A_p0 p0.length c_p0)), (10, (.int .i64 (p0.length : Int))), (11, (.int .i64 x3713))] [] (fun fb => by kernel_rfl) rfl trivial ?_
        refine WL.done rfl ?_
        refine WX.blockN (WX.next ?_)
        refine WC.region ?_
        refine seg 2 [] [3, 9, 10, 11] [(3, (.slice A3912 (l3712 ++ [t3904]).length c3913)), (9, (.slice A_p0 p0.length c_p0)), (10, (.int .i64 (p0.length : Int))), (11, (.int .i64 (w64 (x3713 + 1))))] [] (fun fb => by kernel_rfl) rfl trivial ?_
        refine WL.done rfl ?_
        exact WX.again k3719 (Nat.lt_succ_self _) ((l3712 ++ [t3904], w64 (x3713 + 1)), A3912, c3913) [3, 9, 10, 11] rfl ⟨(hS3915.subR [0]).sub [0] (by decide), hl3722⟩
      refine WC.condF2 (fun fb => by kernel_rfl) h3723 ?_
      refine WC.exit ?_
      injection hl3722 with hl3722
      exact WX.thenX (WX.thenX (WX.blockHere (WX.to Kx3717 (l3712, A3710, c3711) [3] rfl ⟨(hS3721.subR [0]).sub [0] (by decide), hl3722.symm⟩)))
  rintro ⟨y3919, A3714, c3715⟩ w3916 ⟨hS3917, hq3918⟩
  subst hq3918
  refine WX.next ?_
  refine WC.seq ?_
  refine WC.region ?_
  refine seg 1 [] [39] [(39, (.slice A3714 x3717.length c3715))] [] (fun fb => by kernel_rfl) rfl trivial ?_
  obtain ⟨t3923, ht3924, hf⟩ := bind_some hf
  refine WL.call (some 40) 61 #[(.slice A3714 x3717.length c3715), (.string (⟨#[32]⟩ : ByteArray))] (fun fb => by kernel_rfl) (join_calls Tryd.strings_Join Tryd.strings_Join_none x3717 (⟨#[32]⟩ : ByteArray) A3714 c3715 t3923 _ (hS3917.ow 0) ht3924) (fun v w3921 hR3920 => ?_)
  obtain ⟨rfl, hk_⟩ := hR3920
  have hS3922 := hS3917.keepN hk_
  refine ⟨trivial, ?_⟩
  refine seg 3 [] [2] [(2, (.string t3923))] [] (fun fb => by kernel_rfl) rfl trivial ?_
  refine WL.done rfl ?_
  refine WX.next ?_
  refine WC.ret ?_
  injection hf with hf
  subst hf
  exact WX.ret_ [] (.string t3923) [] (fun fb => by kernel_rfl) trivial ⟨_, rfl, rfl, hS3922.keep⟩
theorem tile_Parse_calls (k : Nat) (p0 : ByteArray) (mG : Int) (r : (List Tile) × Int) (w : World) (hR0 : RO NoS w (cel ⟨2, 0, none⟩ (.int .i64 mG))) (hf : tile_Parse k p0 = some r) :
    CallsR Tryd.prog 9 #[(.string p0)] w (fun v w' => ∃ (A1_ : Option Addr), ∃ (c1_ : Nat), v = (.tuple #[(.slice A1_ r.1.length c1_), (.int .i64 r.2)]) ∧ St NoS w w' [] [rowO 62 enc_Tile A1_ c1_ r.1]) := by
  have hS : St NoS w w [cel ⟨2, 0, none⟩ (.int .i64 mG)] [] := St.init (ro_cons hR0 (ro_nil _ _))
  refine enter 76 Tryd.func9 rfl Tryd.ntmps9 rfl ?_
  unfold tile_Parse at hf
  refine WC.seq ?_
  refine WC.region ?_
  refine seg 2 [] [0] [(0, (.string p0))] [] (fun fb => by kernel_rfl) rfl trivial ?_
  refine WL.done rfl ?_
  refine WX.next ?_
  refine WC.seq ?_
  refine WC.region ?_
  refine seg 1 [] [0, 4] [(0, (.string p0)), (4, (.slice none 0 0))] [] (fun fb => by kernel_rfl) rfl trivial ?_
  refine WL.done rfl ?_
  refine WX.next ?_
  refine WC.seq ?_
  refine WC.seq ?_
  refine WC.region ?_
  refine seg 1 [] [0, 4, 13] [(0, (.string p0)), (4, (.slice none 0 0)), (13, (.string p0))] [] (fun fb => by kernel_rfl) rfl trivial ?_
  refine seg 2 [] [0, 4, 14] [(0, (.string p0)), (4, (.slice none 0 0)), (14, (.bool (p0.toList == (⟨#[]⟩ : ByteArray).toList)))] [] (fun fb => by kernel_rfl) rfl trivial ?_
  refine WL.setB 14 (strEq_raw p0 (⟨#[]⟩ : ByteArray)) rfl ?_
  refine WL.done rfl ?_
  refine WX.next ?_
  rcases br_some hf with ⟨h2735, hf⟩ | ⟨h2735, hf⟩
  · refine WC.condT2 (fun fb => by kernel_rfl) h2735 ?_
    refine WC.seq ?_
    refine WC.region ?_
    refine seg 2 [] [2, 3] [(2, (.slice none 0 0)), (3, (.int .i64 0))] [] (fun fb => by kernel_rfl) rfl trivial ?_
    refine WL.done rfl ?_
    refine WX.next ?_
    refine WC.ret ?_
    have hS2736 := hS.nilrow 62 enc_Tile
    injection hf with hf
    subst hf
    exact WX.thenR (WX.ret_ [] (.tuple #[(.slice none ([] : List Tile).length 0), (.int .i64 0)]) [] (fun fb => by kernel_rfl) trivial ⟨_, rfl, none, 0, rfl, (hS2736.sub [0] (by decide)).noR⟩)
  refine WC.condF2 (fun fb => by kernel_rfl) h2735 ?_
  refine WC.skip ?_
  refine WX.next ?_
  refine WC.seq ?_
  refine WC.seq ?_
  refine WC.region ?_
  refine seg 3 [] [0, 4, 17] [(0, (.string p0)), (4, (.slice none 0 0)), (17, (.bool (decide ((p0.size : Int) > 16000))))] [] (fun fb => by kernel_rfl) rfl trivial ?_
  refine WL.done rfl ?_
  refine WX.next ?_
  rcases br_some hf with ⟨h2737, hf⟩ | ⟨h2737, hf⟩
  · refine WC.condT2 (fun fb => by kernel_rfl) h2737 ?_
    refine WC.seq ?_
    refine WC.region ?_
    refine seg 2 [] [2, 3] [(2, (.slice none 0 0)), (3, (.int .i64 3))] [] (fun fb => by kernel_rfl) rfl trivial ?_
    refine WL.done rfl ?_
    refine WX.next ?_
    refine WC.ret ?_
    have hS2738 := hS.nilrow 62 enc_Tile
    injection hf with hf
    subst hf
    exact WX.thenR (WX.ret_ [] (.tuple #[(.slice none ([] : List Tile).length 0), (.int .i64 3)]) [] (fun fb => by kernel_rfl) trivial ⟨_, rfl, none, 0, rfl, (hS2738.sub [0] (by decide)).noR⟩)
  refine WC.condF2 (fun fb => by kernel_rfl) h2737 ?_
  refine WC.skip ?_
  refine WX.next ?_
  refine WC.seq ?_
  refine WC.seq ?_
  refine WC.region ?_
  refine seg 1 [] [0, 4, 18] [(0, (.string p0)), (4, (.slice none 0 0)), (18, (.string p0))] [] (fun fb => by kernel_rfl) rfl trivial ?_
  obtain ⟨h2742, hf⟩ := as_some hf
  refine WL.call (some 19) 41 #[(.string p0), (.string (⟨#[32]⟩ : ByteArray))] (fun fb => by kernel_rfl) (split_calls Tryd.strings_Split p0 (⟨#[32]⟩ : ByteArray) mG _ (hS.rd 0) h2742) (fun v w2740 hR2739 => ?_)
  obtain ⟨A2743, c2744, rfl, hk_⟩ := hR2739
  have hS2741 : St NoS w w2740 [cel ⟨2, 0, none⟩ (.int .i64 mG)] [rowO 9 encStr A2743 c2744 (splitP p0 (⟨#[32]⟩ : ByteArray))] := hS.call hk_ [] [] (fun g hg => hg.elim) (by simp) (by decide)
  refine ⟨trivial, ?_⟩
  refine seg 4 [] [0, 4, 19, 20, 21] [(0, (.string p0)), (4, (.slice none 0 0)), (19, (.slice A2743 (splitP p0 (⟨#[32]⟩ : ByteArray)).length c2744)), (20, (.int .i64 ((splitP p0 (⟨#[32]⟩ : ByteArray)).length : Int))), (21, (.int .i64 0))] [] (fun fb => by kernel_rfl) rfl trivial ?_
  refine WL.done rfl ?_
  refine WX.next ?_
  have hS2987 := hS2741.nilrow 62 enc_Tile
  obtain ⟨x2995, hx2996, hf⟩ := bind_some hf
  refine WC.cutN (T := (List Tile) × (Option Addr) × Nat) (fun t => [(0, (.string p0)), (4, (.slice t.2.1 t.1.length t.2.2))]) (fun t w1 => St NoS w w1 [cel ⟨2, 0, none⟩ (.int .i64 mG)] [rowO 62 enc_Tile t.2.1 t.2.2 t.1] ∧ x2995 = .inr t.1) (fun Kx2995 => ?_) ?_
  ·
    refine WC.block ?_
    refine WC.loop (T := ((List Tile) × Int) × (Option Addr) × Nat) (fun t => [(0, (.string p0)), (4, (.slice t.2.1 t.1.1.length t.2.2)), (19, (.slice A2743 (splitP p0 (⟨#[32]⟩ : ByteArray)).length c2744)), (20, (.int .i64 ((splitP p0 (⟨#[32]⟩ : ByteArray)).length : Int))), (21, (.int .i64 t.1.2))]) (fun n t w1 => St NoS w w1 [cel ⟨2, 0, none⟩ (.int .i64 mG)] [rowO 62 enc_Tile t.2.1 t.2.2 t.1.1, rowO 9 encStr A2743 c2744 (splitP p0 (⟨#[32]⟩ : ByteArray))] ∧ tile_Parse.l0 n t.1.1 t.1.2 p0 = some x2995) k ((([] : List Tile), 0), none, 0) [0, 4, 19, 20, 21] rfl ⟨(hS2987.subR [0]).sub [0, 1] (by decide), hx2996⟩ ?_
    rintro k2997 ⟨⟨l2990, x2991⟩, A2988, c2989⟩ w2998 ⟨hS2999, hl3000⟩
    cases k2997 with
    | zero => rw [tile_Parse.l0] at hl3000; cases hl3000
    | succ k2997 =>
      rw [tile_Parse.l0] at hl3000
      refine WC.seq ?_
      refine WC.region ?_
      refine seg 1 [] [0, 4, 19, 20, 21, 22] [(0, (.string p0)), (4, (.slice A2988 l2990.length c2989)), (19, (.slice A2743 (splitP p0 (⟨#[32]⟩ : ByteArray)).length c2744)), (20, (.int .i64 ((splitP p0 (⟨#[32]⟩ : ByteArray)).length : Int))), (21, (.int .i64 x2991)), (22, (.bool (decide (x2991 < ((splitP p0 (⟨#[32]⟩ : ByteArray)).length : Int)))))] [] (fun fb => by kernel_rfl) rfl trivial ?_
      refine WL.done rfl ?_
      refine WX.next ?_
      refine WC.seq ?_
      rcases br_some hl3000 with ⟨h3001, hl3000⟩ | ⟨h3001, hl3000⟩
      · refine WC.condT2 (fun fb => by kernel_rfl) h3001 ?_
        refine WC.skip ?_
        refine WX.next ?_
        refine WC.seq ?_
        refine WC.block ?_
        refine WC.seq ?_
        refine WC.region ?_
        obtain ⟨h3002, hl3000⟩ := as_some hl3000
        refine seg 3 [.v (.string (rdD (splitP p0 (⟨#[32]⟩ : ByteArray)) x2991 ByteArray.empty))] [0, 4, 6, 19, 20, 21] [(0, (.string p0)), (4, (.slice A2988 l2990.length c2989)), (6, (.string (rdD (splitP p0 (⟨#[32]⟩ : ByteArray)) x2991 ByteArray.empty))), (19, (.slice A2743 (splitP p0 (⟨#[32]⟩ : ByteArray)).length c2744)), (20, (.int .i64 ((splitP p0 (⟨#[32]⟩ : ByteArray)).length : Int))), (21, (.int .i64 x2991))] [.idx A2743 x2991 (splitP p0 (⟨#[32]⟩ : ByteArray)).length, .cell ((adr A2743).add ((x2991).toNat * 1)) (.string (rdD (splitP p0 (⟨#[32]⟩ : ByteArray)) x2991 ByteArray.empty))] (fun fb => by kernel_rfl) rfl ⟨rowR.adr (rowO.rd (hS2999.own 1).1) h3002.1 h3002.2, rowR.cell (rowO.rd (hS2999.own 1).1) ByteArray.empty h3002.1 h3002.2 0 rfl, trivial⟩ ?_
        refine WL.done rfl ?_
        refine WX.next ?_
        refine WC.seq ?_
        refine WC.region ?_
        refine seg 1 [] [0, 4, 19, 20, 21, 25] [(0, (.string p0)), (4, (.slice A2988 l2990.length c2989)), (19, (.slice A2743 (splitP p0 (⟨#[32]⟩ : ByteArray)).length c2744)), (20, (.int .i64 ((splitP p0 (⟨#[32]⟩ : ByteArray)).length : Int))), (21, (.int .i64 x2991)), (25, (.string (rdD (splitP p0 (⟨#[32]⟩ : ByteArray)) x2991 ByteArray.empty)))] [] (fun fb => by kernel_rfl) rfl trivial ?_
        obtain ⟨h3006, hl3000⟩ := as_some hl3000
        refine WL.call (some 26) 41 #[(.string (rdD (splitP p0 (⟨#[32]⟩ : ByteArray)) x2991 ByteArray.empty)), (.string (⟨#[46]⟩ : ByteArray))] (fun fb => by kernel_rfl) (split_calls Tryd.strings_Split (rdD (splitP p0 (⟨#[32]⟩ : ByteArray)) x2991 ByteArray.empty) (⟨#[46]⟩ : ByteArray) mG _ (hS2999.rd 0) h3006) (fun v w3004 hR3003 => ?_)
        obtain ⟨A3007, c3008, rfl, hk_⟩ := hR3003
        have hS3005 : St NoS w w3004 [cel ⟨2, 0, none⟩ (.int .i64 mG)] [rowO 9 encStr A3007 c3008 (splitP (rdD (splitP p0 (⟨#[32]⟩ : ByteArray)) x2991 ByteArray.empty) (⟨#[46]⟩ : ByteArray)), rowO 62 enc_Tile A2988 c2989 l2990, rowO 9 encStr A2743 c2744 (splitP p0 (⟨#[32]⟩ : ByteArray))] := hS2999.call hk_ [] [0, 1] (fun g hg => hg.elim) (by simp) (by decide)
        refine ⟨trivial, ?_⟩
        refine seg 3 [] [0, 4, 7, 19, 20, 21] [(0, (.string p0)), (4, (.slice A2988 l2990.length c2989)), (7, (.slice A3007 (splitP (rdD (splitP p0 (⟨#[32]⟩ : ByteArray)) x2991 ByteArray.empty) (⟨#[46]⟩ : ByteArray)).length c3008)), (19, (.slice A2743 (splitP p0 (⟨#[32]⟩ : ByteArray)).length c2744)), (20, (.int .i64 ((splitP p0 (⟨#[32]⟩ : ByteArray)).length : Int))), (21, (.int .i64 x2991))] [] (fun fb => by kernel_rfl) rfl trivial ?_
        refine WL.done rfl ?_
        refine WX.next ?_
        refine WC.seq ?_
        refine WC.seq ?_
        refine WC.region ?_
        refine seg 4 [] [0, 4, 7, 19, 20, 21, 30] [(0, (.string p0)), (4, (.slice A2988 l2990.length c2989)), (7, (.slice A3007 (splitP (rdD (splitP p0 (⟨#[32]⟩ : ByteArray)) x2991 ByteArray.empty) (⟨#[46]⟩ : ByteArray)).length c3008)), (19, (.slice A2743 (splitP p0 (⟨#[32]⟩ : ByteArray)).length c2744)), (20, (.int .i64 ((splitP p0 (⟨#[32]⟩ : ByteArray)).length : Int))), (21, (.int .i64 x2991)), (30, (.bool (((splitP (rdD (splitP p0 (⟨#[32]⟩ : ByteArray)) x2991 ByteArray.empty) (⟨#[46]⟩ : ByteArray)).length : Int) != 4)))] [] (fun fb => by kernel_rfl) rfl trivial ?_
        refine WL.cutV (T := Bool) 8 (fun t => [(34, (.bool t)), (0, (.string p0)), (4, (.slice A2988 l2990.length c2989)), (7, (.slice A3007 (splitP (rdD (splitP p0 (⟨#[32]⟩ : ByteArray)) x2991 ByteArray.empty) (⟨#[46]⟩ : ByteArray)).length c3008)), (19, (.slice A2743 (splitP p0 (⟨#[32]⟩ : ByteArray)).length c2744)), (20, (.int .i64 ((splitP p0 (⟨#[32]⟩ : ByteArray)).length : Int))), (21, (.int .i64 x2991))]) (fun t => t = ((((splitP (rdD (splitP p0 (⟨#[32]⟩ : ByteArray)) x2991 ByteArray.empty) (⟨#[46]⟩ : ByteArray)).length : Int) != 4) || (decide ((l2990.length : Int) > 1000)))) (fun K => ?_) ?_
        ·
          rcases Bool.eq_false_or_eq_true (((splitP (rdD (splitP p0 (⟨#[32]⟩ : ByteArray)) x2991 ByteArray.empty) (⟨#[46]⟩ : ByteArray)).length : Int) != 4) with h3009 | h3009
          ·
            refine WL.setB 30 h3009 rfl ?_
            refine seg 8 [] [0, 4, 7, 19, 20, 21, 34] [(0, (.string p0)), (4, (.slice A2988 l2990.length c2989)), (7, (.slice A3007 (splitP (rdD (splitP p0 (⟨#[32]⟩ : ByteArray)) x2991 ByteArray.empty) (⟨#[46]⟩ : ByteArray)).length c3008)), (19, (.slice A2743 (splitP p0 (⟨#[32]⟩ : ByteArray)).length c2744)), (20, (.int .i64 ((splitP p0 (⟨#[32]⟩ : ByteArray)).length : Int))), (21, (.int .i64 x2991)), (34, (.bool true))] [] (fun fb => by kernel_rfl) rfl trivial ?_
            exact WL.toV K true [34, 0, 4, 7, 19, 20, 21] rfl (by first | (rw [h3009]; done) | (rw [h3009]; rfl))
          refine WL.setB 30 h3009 rfl ?_
          refine seg 8 [] [0, 4, 7, 19, 20, 21, 34] [(0, (.string p0)), (4, (.slice A2988 l2990.length c2989)), (7, (.slice A3007 (splitP (rdD (splitP p0 (⟨#[32]⟩ : ByteArray)) x2991 ByteArray.empty) (⟨#[46]⟩ : ByteArray)).length c3008)), (19, (.slice A2743 (splitP p0 (⟨#[32]⟩ : ByteArray)).length c2744)), (20, (.int .i64 ((splitP p0 (⟨#[32]⟩ : ByteArray)).length : Int))), (21, (.int .i64 x2991)), (34, (.bool (decide ((l2990.length : Int) > 1000))))] [] (fun fb => by kernel_rfl) rfl trivial ?_
          exact WL.toV K (decide ((l2990.length : Int) > 1000)) [34, 0, 4, 7, 19, 20, 21] rfl (by first | (rw [h3009]; done) | (rw [h3009]; rfl))
        rintro b3010 rfl
        refine WL.done rfl ?_
        refine WX.next ?_
        rcases br_some hl3000 with ⟨h3011, hl3000⟩ | ⟨h3011, hl3000⟩
        · refine WC.condT2 (fun fb => by kernel_rfl) h3011 ?_
          refine WC.seq ?_
          refine WC.region ?_
          refine seg 2 [] [2, 3] [(2, (.slice none 0 0)), (3, (.int .i64 3))] [] (fun fb => by kernel_rfl) rfl trivial ?_
          refine WL.done rfl ?_
          refine WX.next ?_
          refine WC.ret ?_
          have hS3012 := hS3005.nilrow 62 enc_Tile
          injection hl3000 with hl3000
          subst hl3000
          injection hf with hf
          subst hf
          exact WX.thenR (WX.blockR (WX.thenR (WX.thenR (WX.blockR (WX.thenR (WX.ret_ [] (.tuple #[(.slice none ([] : List Tile).length 0), (.int .i64 3)]) [] (fun fb => by kernel_rfl) trivial ⟨_, rfl, none, 0, rfl, (hS3012.sub [0] (by decide)).noR⟩))))))
        refine WC.condF2 (fun fb => by kernel_rfl) h3011 ?_
        refine WC.skip ?_
        refine WX.next ?_
        refine WC.seq ?_
        refine WC.region ?_
        refine WL.new hS3005 8 [] (fun g => (.pointer (some ⟨g, 0, none⟩))) (.cells #[(.int .i64 0), (.int .i64 0), (.int .i64 0), (.int .i64 0)] 56 (0, 0)) [] (fun fb g => by kernel_rfl) trivial (fun g3013 w3014 hS3015 => ?_)
        refine ⟨trivial, ?_⟩
        refine WL.done rfl ?_
        refine WX.next ?_
        refine WC.seq ?_
        refine WC.seq ?_
        refine WC.region ?_
        refine seg 3 [] [0, 4, 8, 19, 20, 21, 35, 36, 37] [(0, (.string p0)), (4, (.slice A2988 l2990.length c2989)), (8, (.pointer (some ⟨g3013, 0, none⟩))), (19, (.slice A2743 (splitP p0 (⟨#[32]⟩ : ByteArray)).length c2744)), (20, (.int .i64 ((splitP p0 (⟨#[32]⟩ : ByteArray)).length : Int))), (21, (.int .i64 x2991)), (35, (.slice A3007 (splitP (rdD (splitP p0 (⟨#[32]⟩ : ByteArray)) x2991 ByteArray.empty) (⟨#[46]⟩ : ByteArray)).length c3008)), (36, (.int .i64 ((splitP (rdD (splitP p0 (⟨#[32]⟩ : ByteArray)) x2991 ByteArray.empty) (⟨#[46]⟩ : ByteArray)).length : Int))), (37, (.int .i64 0))] [] (fun fb => by kernel_rfl) rfl trivial ?_
        refine WL.done rfl ?_
        refine WX.next ?_
        obtain ⟨x3080, hx3081, hl3000⟩ := bind_some hl3000
        refine WC.cutN (T := Int × Int × Int × Int) (fun t => [(0, (.string p0)), (4, (.slice A2988 l2990.length c2989)), (8, (.pointer (some ⟨g3013, 0, none⟩))), (19, (.slice A2743 (splitP p0 (⟨#[32]⟩ : ByteArray)).length c2744)), (20, (.int .i64 ((splitP p0 (⟨#[32]⟩ : ByteArray)).length : Int))), (21, (.int .i64 x2991))]) (fun t w1 => St NoS w w1 [cel ⟨2, 0, none⟩ (.int .i64 mG)] [rowO 62 enc_Tile A2988 c2989 l2990, blk g3013 (.cells #[(.int .i64 t.1), (.int .i64 t.2.1), (.int .i64 t.2.2.1), (.int .i64 t.2.2.2)] 56 (0, 0)), rowO 9 encStr A2743 c2744 (splitP p0 (⟨#[32]⟩ : ByteArray))] ∧ x3080 = t) (fun Kx3080 => ?_) ?_
        ·
          refine WC.block ?_
          refine WC.loop (T := Int × Int × Int × Int × Int) (fun t => [(0, (.string p0)), (4, (.slice A2988 l2990.length c2989)), (8, (.pointer (some ⟨g3013, 0, none⟩))), (19, (.slice A2743 (splitP p0 (⟨#[32]⟩ : ByteArray)).length c2744)), (20, (.int .i64 ((splitP p0 (⟨#[32]⟩ : ByteArray)).length : Int))), (21, (.int .i64 x2991)), (35, (.slice A3007 (splitP (rdD (splitP p0 (⟨#[32]⟩ : ByteArray)) x2991 ByteArray.empty) (⟨#[46]⟩ : ByteArray)).length c3008)), (36, (.int .i64 ((splitP (rdD (splitP p0 (⟨#[32]⟩ : ByteArray)) x2991 ByteArray.empty) (⟨#[46]⟩ : ByteArray)).length : Int))), (37, (.int .i64 t.2.2.2.2))]) (fun n t w1 => St NoS w w1 [cel ⟨2, 0, none⟩ (.int .i64 mG)] [rowO 62 enc_Tile A2988 c2989 l2990, blk g3013 (.cells #[(.int .i64 t.1), (.int .i64 t.2.1), (.int .i64 t.2.2.1), (.int .i64 t.2.2.2.1)] 56 (0, 0)), rowO 9 encStr A2743 c2744 (splitP p0 (⟨#[32]⟩ : ByteArray)), rowO 9 encStr A3007 c3008 (splitP (rdD (splitP p0 (⟨#[32]⟩ : ByteArray)) x2991 ByteArray.empty) (⟨#[46]⟩ : ByteArray))] ∧ tile_Parse.l1 n t.1 t.2.1 t.2.2.1 t.2.2.2.1 t.2.2.2.2 p0 x2991 = some x3080) k2997 (0, 0, 0, 0, 0) [0, 4, 8, 19, 20, 21, 35, 36, 37] rfl ⟨(hS3015.subR [0]).sub [2, 0, 3, 1] (by decide), hx3081⟩ ?_
          rintro k3082 ⟨x3071, x3072, x3073, x3074, x3075⟩ w3083 ⟨hS3084, hl3085⟩
          cases k3082 with
          | zero => rw [tile_Parse.l1] at hl3085; cases hl3085
          | succ k3082 =>
            rw [tile_Parse.l1] at hl3085
            refine WC.seq ?_
            refine WC.region ?_
            refine seg 1 [] [0, 4, 8, 19, 20, 21, 35, 36, 37, 38] [(0, (.string p0)), (4, (.slice A2988 l2990.length c2989)), (8, (.pointer (some ⟨g3013, 0, none⟩))), (19, (.slice A2743 (splitP p0 (⟨#[32]⟩ : ByteArray)).length c2744)), (20, (.int .i64 ((splitP p0 (⟨#[32]⟩ : ByteArray)).length : Int))), (21, (.int .i64 x2991)), (35, (.slice A3007 (splitP (rdD (splitP p0 (⟨#[32]⟩ : ByteArray)) x2991 ByteArray.empty) (⟨#[46]⟩ : ByteArray)).length c3008)), (36, (.int .i64 ((splitP (rdD (splitP p0 (⟨#[32]⟩ : ByteArray)) x2991 ByteArray.empty) (⟨#[46]⟩ : ByteArray)).length : Int))), (37, (.int .i64 x3075)), (38, (.bool (decide (x3075 < ((splitP (rdD (splitP p0 (⟨#[32]⟩ : ByteArray)) x2991 ByteArray.empty) (⟨#[46]⟩ : ByteArray)).length : Int)))))] [] (fun fb => by kernel_rfl) rfl trivial ?_
            refine WL.done rfl ?_
            refine WX.next ?_
            refine WC.seq ?_
            rcases br_some hl3085 with ⟨h3086, hl3085⟩ | ⟨h3086, hl3085⟩
            · refine WC.condT2 (fun fb => by kernel_rfl) h3086 ?_
              refine WC.skip ?_
              refine WX.next ?_
              refine WC.seq ?_
              refine WC.block ?_
              refine WC.seq ?_
              refine WC.region ?_
              refine seg 1 [] [0, 4, 8, 19, 20, 21, 35, 36, 37, 39] [(0, (.string p0)), (4, (.slice A2988 l2990.length c2989)), (8, (.pointer (some ⟨g3013, 0, none⟩))), (19, (.slice A2743 (splitP p0 (⟨#[32]⟩ : ByteArray)).length c2744)), (20, (.int .i64 ((splitP p0 (⟨#[32]⟩ : ByteArray)).length : Int))), (21, (.int .i64 x2991)), (35, (.slice A3007 (splitP (rdD (splitP p0 (⟨#[32]⟩ : ByteArray)) x2991 ByteArray.empty) (⟨#[46]⟩ : ByteArray)).length c3008)), (36, (.int .i64 ((splitP (rdD (splitP p0 (⟨#[32]⟩ : ByteArray)) x2991 ByteArray.empty) (⟨#[46]⟩ : ByteArray)).length : Int))), (37, (.int .i64 x3075)), (39, (.int .i64 x3075))] [] (fun fb => by kernel_rfl) rfl trivial ?_
              obtain ⟨h3087, hl3085⟩ := as_some hl3085
              refine seg 5 [.v (.string (rdD (splitP (rdD (splitP p0 (⟨#[32]⟩ : ByteArray)) x2991 ByteArray.empty) (⟨#[46]⟩ : ByteArray)) x3075 ByteArray.empty))] [0, 4, 8, 9, 10, 19, 20, 21, 35, 36, 37] [(0, (.string p0)), (4, (.slice A2988 l2990.length c2989)), (8, (.pointer (some ⟨g3013, 0, none⟩))), (9, (.int .i64 x3075)), (10, (.string (rdD (splitP (rdD (splitP p0 (⟨#[32]⟩ : ByteArray)) x2991 ByteArray.empty) (⟨#[46]⟩ : ByteArray)) x3075 ByteArray.empty))), (19, (.slice A2743 (splitP p0 (⟨#[32]⟩ : ByteArray)).length c2744)), (20, (.int .i64 ((splitP p0 (⟨#[32]⟩ : ByteArray)).length : Int))), (21, (.int .i64 x2991)), (35, (.slice A3007 (splitP (rdD (splitP p0 (⟨#[32]⟩ : ByteArray)) x2991 ByteArray.empty) (⟨#[46]⟩ : ByteArray)).length c3008)), (36, (.int .i64 ((splitP (rdD (splitP p0 (⟨#[32]⟩ : ByteArray)) x2991 ByteArray.empty) (⟨#[46]⟩ : ByteArray)).length : Int))), (37, (.int .i64 x3075))] [.idx A3007 x3075 (splitP (rdD (splitP p0 (⟨#[32]⟩ : ByteArray)) x2991 ByteArray.empty) (⟨#[46]⟩ : ByteArray)).length, .cell ((adr A3007).add ((x3075).toNat * 1)) (.string (rdD (splitP (rdD (splitP p0 (⟨#[32]⟩ : ByteArray)) x2991 ByteArray.empty) (⟨#[46]⟩ : ByteArray)) x3075 ByteArray.empty))] (fun fb => by kernel_rfl) rfl ⟨rowR.adr (rowO.rd (hS3084.own 3).1) h3087.1 h3087.2, rowR.cell (rowO.rd (hS3084.own 3).1) ByteArray.empty h3087.1 h3087.2 0 rfl, trivial⟩ ?_
              refine WL.done rfl ?_
              refine WX.next ?_
              refine WC.seq ?_
              refine WC.region ?_
              refine seg 1 [] [0, 4, 8, 9, 19, 20, 21, 35, 36, 37, 43] [(0, (.string p0)), (4, (.slice A2988 l2990.length c2989)), (8, (.pointer (some ⟨g3013, 0, none⟩))), (9, (.int .i64 x3075)), (19, (.slice A2743 (splitP p0 (⟨#[32]⟩ : ByteArray)).length c2744)), (20, (.int .i64 ((splitP p0 (⟨#[32]⟩ : ByteArray)).length : Int))), (21, (.int .i64 x2991)), (35, (.slice A3007 (splitP (rdD (splitP p0 (⟨#[32]⟩ : ByteArray)) x2991 ByteArray.empty) (⟨#[46]⟩ : ByteArray)).length c3008)), (36, (.int .i64 ((splitP (rdD (splitP p0 (⟨#[32]⟩ : ByteArray)) x2991 ByteArray.empty) (⟨#[46]⟩ : ByteArray)).length : Int))), (37, (.int .i64 x3075)), (43, (.string (rdD (splitP (rdD (splitP p0 (⟨#[32]⟩ : ByteArray)) x2991 ByteArray.empty) (⟨#[46]⟩ : ByteArray)) x3075 ByteArray.empty)))] [] (fun fb => by kernel_rfl) rfl trivial ?_
              obtain ⟨t3091, ht3092, hl3085⟩ := bind_some hl3085
              refine WL.call (some 44) 42 #[(.string (rdD (splitP (rdD (splitP p0 (⟨#[32]⟩ : ByteArray)) x2991 ByteArray.empty) (⟨#[46]⟩ : ByteArray)) x3075 ByteArray.empty))] (fun fb => by kernel_rfl) (atoi_calls Tryd.strconv_Atoi_ok (rdD (splitP (rdD (splitP p0 (⟨#[32]⟩ : ByteArray)) x2991 ByteArray.empty) (⟨#[46]⟩ : ByteArray)) x3075 ByteArray.empty) t3091 _ ht3092) (fun v w3089 hR3088 => ?_)
              obtain ⟨rfl, hk_⟩ := hR3088
              have hS3090 := hS3084.keepN hk_
              refine ⟨trivial, ?_⟩
              refine seg 7 [] [0, 4, 8, 9, 11, 12, 19, 20, 21, 35, 36, 37] [(0, (.string p0)), (4, (.slice A2988 l2990.length c2989)), (8, (.pointer (some ⟨g3013, 0, none⟩))), (9, (.int .i64 x3075)), (11, (.int .i64 t3091)), (12, .nilIface), (19, (.slice A2743 (splitP p0 (⟨#[32]⟩ : ByteArray)).length c2744)), (20, (.int .i64 ((splitP p0 (⟨#[32]⟩ : ByteArray)).length : Int))), (21, (.int .i64 x2991)), (35, (.slice A3007 (splitP (rdD (splitP p0 (⟨#[32]⟩ : ByteArray)) x2991 ByteArray.empty) (⟨#[46]⟩ : ByteArray)).length c3008)), (36, (.int .i64 ((splitP (rdD (splitP p0 (⟨#[32]⟩ : ByteArray)) x2991 ByteArray.empty) (⟨#[46]⟩ : ByteArray)).length : Int))), (37, (.int .i64 x3075))] [] (fun fb => by kernel_rfl) rfl trivial ?_
              refine WL.done rfl ?_
              refine WX.next ?_
              refine WC.seq ?_
              refine WC.seq ?_
              refine WC.region ?_
              refine seg 2 [] [0, 4, 8, 9, 11, 19, 20, 21, 35, 36, 37, 48] [(0, (.string p0)), (4, (.slice A2988 l2990.length c2989)), (8, (.pointer (some ⟨g3013, 0, none⟩))), (9, (.int .i64 x3075)), (11, (.int .i64 t3091)), (19, (.slice A2743 (splitP p0 (⟨#[32]⟩ : ByteArray)).length c2744)), (20, (.int .i64 ((splitP p0 (⟨#[32]⟩ : ByteArray)).length : Int))), (21, (.int .i64 x2991)), (35, (.slice A3007 (splitP (rdD (splitP p0 (⟨#[32]⟩ : ByteArray)) x2991 ByteArray.empty) (⟨#[46]⟩ : ByteArray)).length c3008)), (36, (.int .i64 ((splitP (rdD (splitP p0 (⟨#[32]⟩ : ByteArray)) x2991 ByteArray.empty) (⟨#[46]⟩ : ByteArray)).length : Int))), (37, (.int .i64 x3075)), (48, (.bool false))] [] (fun fb => by kernel_rfl) rfl trivial ?_
              refine WL.done rfl ?_
              refine WX.next ?_
              refine WC.condF (fun fb => by kernel_rfl) ?_
              refine WC.skip ?_
              refine WX.next ?_
              refine WC.region ?_
              refine seg 2 [] [0, 4, 8, 19, 20, 21, 35, 36, 37, 49, 50] [(0, (.string p0)), (4, (.slice A2988 l2990.length c2989)), (8, (.pointer (some ⟨g3013, 0, none⟩))), (19, (.slice A2743 (splitP p0 (⟨#[32]⟩ : ByteArray)).length c2744)), (20, (.int .i64 ((splitP p0 (⟨#[32]⟩ : ByteArray)).length : Int))), (21, (.int .i64 x2991)), (35, (.slice A3007 (splitP (rdD (splitP p0 (⟨#[32]⟩ : ByteArray)) x2991 ByteArray.empty) (⟨#[46]⟩ : ByteArray)).length c3008)), (36, (.int .i64 ((splitP (rdD (splitP p0 (⟨#[32]⟩ : ByteArray)) x2991 ByteArray.empty) (⟨#[46]⟩ : ByteArray)).length : Int))), (37, (.int .i64 x3075)), (49, (.int .i64 x3075)), (50, (.int .i64 t3091))] [] (fun fb => by kernel_rfl) rfl trivial ?_
              rcases br_some hl3085 with ⟨h3093, hl3085⟩ | ⟨h3093, hl3085⟩
              ·
                refine WL.setI 49 (eq_of_beq h3093) rfl ?_
                refine seg 3 [] [0, 4, 8, 19, 20, 21, 35, 36, 37, 50, 51] [(0, (.string p0)), (4, (.slice A2988 l2990.length c2989)), (8, (.pointer (some ⟨g3013, 0, none⟩))), (19, (.slice A2743 (splitP p0 (⟨#[32]⟩ : ByteArray)).length c2744)), (20, (.int .i64 ((splitP p0 (⟨#[32]⟩ : ByteArray)).length : Int))), (21, (.int .i64 x2991)), (35, (.slice A3007 (splitP (rdD (splitP p0 (⟨#[32]⟩ : ByteArray)) x2991 ByteArray.empty) (⟨#[46]⟩ : ByteArray)).length c3008)), (36, (.int .i64 ((splitP (rdD (splitP p0 (⟨#[32]⟩ : ByteArray)) x2991 ByteArray.empty) (⟨#[46]⟩ : ByteArray)).length : Int))), (37, (.int .i64 x3075)), (50, (.int .i64 t3091)), (51, (.pointer (some ⟨g3013, 0, none⟩)))] [] (fun fb => by kernel_rfl) rfl trivial ?_
                refine WL.store hS3090 1 rfl [(0, (.int .i64 t3091))] #[(.int .i64 t3091), (.int .i64 x3072), (.int .i64 x3073), (.int .i64 x3074)] (fun fb => by kernel_rfl) (by kernel_rfl) rfl [0, 2, 3] (by decide) (by decide) (fun w3094 hS3095 => ?_)
                refine ⟨trivial, ?_⟩
                refine WL.done rfl ?_
                refine WX.blockN (WX.next ?_)
                refine WC.region ?_
                refine seg 2 [] [0, 4, 8, 19, 20, 21, 35, 36, 37] [(0, (.string p0)), (4, (.slice A2988 l2990.length c2989)), (8, (.pointer (some ⟨g3013, 0, none⟩))), (19, (.slice A2743 (splitP p0 (⟨#[32]⟩ : ByteArray)).length c2744)), (20, (.int .i64 ((splitP p0 (⟨#[32]⟩ : ByteArray)).length : Int))), (21, (.int .i64 x2991)), (35, (.slice A3007 (splitP (rdD (splitP p0 (⟨#[32]⟩ : ByteArray)) x2991 ByteArray.empty) (⟨#[46]⟩ : ByteArray)).length c3008)), (36, (.int .i64 ((splitP (rdD (splitP p0 (⟨#[32]⟩ : ByteArray)) x2991 ByteArray.empty) (⟨#[46]⟩ : ByteArray)).length : Int))), (37, (.int .i64 (w64 (x3075 + 1))))] [] (fun fb => by kernel_rfl) rfl trivial ?_
                refine WL.done rfl ?_
                exact WX.again k3082 (Nat.lt_succ_self _) (t3091, x3072, x3073, x3074, w64 (x3075 + 1)) [0, 4, 8, 19, 20, 21, 35, 36, 37] rfl ⟨(hS3095.subR [0]).sub [1, 0, 2, 3] (by decide), hl3085⟩
              rcases br_some hl3085 with ⟨h3096, hl3085⟩ | ⟨h3096, hl3085⟩
              ·
                refine WL.setI 49 (eq_of_beq h3096) rfl ?_
                refine seg 3 [] [0, 4, 8, 19, 20, 21, 35, 36, 37, 50, 51] [(0, (.string p0)), (4, (.slice A2988 l2990.length c2989)), (8, (.pointer (some ⟨g3013, 0, none⟩))), (19, (.slice A2743 (splitP p0 (⟨#[32]⟩ : ByteArray)).length c2744)), (20, (.int .i64 ((splitP p0 (⟨#[32]⟩ : ByteArray)).length : Int))), (21, (.int .i64 x2991)), (35, (.slice A3007 (splitP (rdD (splitP p0 (⟨#[32]⟩ : ByteArray)) x2991 ByteArray.empty) (⟨#[46]⟩ : ByteArray)).length c3008)), (36, (.int .i64 ((splitP (rdD (splitP p0 (⟨#[32]⟩ : ByteArray)) x2991 ByteArray.empty) (⟨#[46]⟩ : ByteArray)).length : Int))), (37, (.int .i64 x3075)), (50, (.int .i64 t3091)), (51, (.pointer (some ⟨g3013, 1, none⟩)))] [] (fun fb => by kernel_rfl) rfl trivial ?_
                refine WL.store hS3090 1 rfl [(1, (.int .i64 t3091))] #[(.int .i64 x3071), (.int .i64 t3091), (.int .i64 x3073), (.int .i64 x3074)] (fun fb => by kernel_rfl) (by kernel_rfl) rfl [0, 2, 3] (by decide) (by decide) (fun w3097 hS3098 => ?_)
                refine ⟨trivial, ?_⟩
                refine WL.done rfl ?_
                refine WX.blockN (WX.next ?_)
                refine WC.region ?_
                refine seg 2 [] [0, 4, 8, 19, 20, 21, 35, 36, 37] [(0, (.string p0)), (4, (.slice A2988 l2990.length c2989)), (8, (.pointer (some ⟨g3013, 0, none⟩))), (19, (.slice A2743 (splitP p0 (⟨#[32]⟩ : ByteArray)).length c2744)), (20, (.int .i64 ((splitP p0 (⟨#[32]⟩ : ByteArray)).length : Int))), (21, (.int .i64 x2991)), (35, (.slice A3007 (splitP (rdD (splitP p0 (⟨#[32]⟩ : ByteArray)) x2991 ByteArray.empty) (⟨#[46]⟩ : ByteArray)).length c3008)), (36, (.int .i64 ((splitP (rdD (splitP p0 (⟨#[32]⟩ : ByteArray)) x2991 ByteArray.empty) (⟨#[46]⟩ : ByteArray)).length : Int))), (37, (.int .i64 (w64 (x3075 + 1))))] [] (fun fb => by kernel_rfl) rfl trivial ?_
                refine WL.done rfl ?_
                exact WX.again k3082 (Nat.lt_succ_self _) (x3071, t3091, x3073, x3074, w64 (x3075 + 1)) [0, 4, 8, 19, 20, 21, 35, 36, 37] rfl ⟨(hS3098.subR [0]).sub [1, 0, 2, 3] (by decide), hl3085⟩
              rcases br_some hl3085 with ⟨h3099, hl3085⟩ | ⟨h3099, hl3085⟩
              ·
                refine WL.setI 49 (eq_of_beq h3099) rfl ?_
                refine seg 3 [] [0, 4, 8, 19, 20, 21, 35, 36, 37, 50, 51] [(0, (.string p0)), (4, (.slice A2988 l2990.length c2989)), (8, (.pointer (some ⟨g3013, 0, none⟩))), (19, (.slice A2743 (splitP p0 (⟨#[32]⟩ : ByteArray)).length c2744)), (20, (.int .i64 ((splitP p0 (⟨#[32]⟩ : ByteArray)).length : Int))), (21, (.int .i64 x2991)), (35, (.slice A3007 (splitP (rdD (splitP p0 (⟨#[32]⟩ : ByteArray)) x2991 ByteArray.empty) (⟨#[46]⟩ : ByteArray)).length c3008)), (36, (.int .i64 ((splitP (rdD (splitP p0 (⟨#[32]⟩ : ByteArray)) x2991 ByteArray.empty) (⟨#[46]⟩ : ByteArray)).length : Int))), (37, (.int .i64 x3075)), (50, (.int .i64 t3091)), (51, (.pointer (some ⟨g3013, 2, none⟩)))] [] (fun fb => by kernel_rfl) rfl trivial ?_
                refine WL.store hS3090 1 rfl [(2, (.int .i64 t3091))] #[(.int .i64 x3071), (.int .i64 x3072), (.int .i64 t3091), (.int .i64 x3074)] (fun fb => by kernel_rfl) (by kernel_rfl) rfl [0, 2, 3] (by decide) (by decide) (fun w3100 hS3101 => ?_)
                refine ⟨trivial, ?_⟩
                refine WL.done rfl ?_
                refine WX.blockN (WX.next ?_)
                refine WC.region ?_
                refine seg 2 [] [0, 4, 8, 19, 20, 21, 35, 36, 37] [(0, (.string p0)), (4, (.slice A2988 l2990.length c2989)), (8, (.pointer (some ⟨g3013, 0, none⟩))), (19, (.slice A2743 (splitP p0 (⟨#[32]⟩ : ByteArray)).length c2744)), (20, (.int .i64 ((splitP p0 (⟨#[32]⟩ : ByteArray)).length : Int))), (21, (.int .i64 x2991)), (35, (.slice A3007 (splitP (rdD (splitP p0 (⟨#[32]⟩ : ByteArray)) x2991 ByteArray.empty) (⟨#[46]⟩ : ByteArray)).length c3008)), (36, (.int .i64 ((splitP (rdD (splitP p0 (⟨#[32]⟩ : ByteArray)) x2991 ByteArray.empty) (⟨#[46]⟩ : ByteArray)).length : Int))), (37, (.int .i64 (w64 (x3075 + 1))))] [] (fun fb => by kernel_rfl) rfl trivial ?_
                refine WL.done rfl ?_
                exact WX.again k3082 (Nat.lt_succ_self _) (x3071, x3072, t3091, x3074, w64 (x3075 + 1)) [0, 4, 8, 19, 20, 21, 35, 36, 37] rfl ⟨(hS3101.subR [0]).sub [1, 0, 2, 3] (by decide), hl3085⟩
              rcases br_some hl3085 with ⟨h3102, hl3085⟩ | ⟨h3102, hl3085⟩
              ·
                refine WL.setI 49 (eq_of_beq h3102) rfl ?_
                refine seg 3 [] [0, 4, 8, 19, 20, 21, 35, 36, 37, 50, 51] [(0, (.string p0)), (4, (.slice A2988 l2990.length c2989)), (8, (.pointer (some ⟨g3013, 0, none⟩))), (19, (.slice A2743 (splitP p0 (⟨#[32]⟩ : ByteArray)).length c2744)), (20, (.int .i64 ((splitP p0 (⟨#[32]⟩ : ByteArray)).length : Int))), (21, (.int .i64 x2991)), (35, (.slice A3007 (splitP (rdD (splitP p0 (⟨#[32]⟩ : ByteArray)) x2991 ByteArray.empty) (⟨#[46]⟩ : ByteArray)).length c3008)), (36, (.int .i64 ((splitP (rdD (splitP p0 (⟨#[32]⟩ : ByteArray)) x2991 ByteArray.empty) (⟨#[46]⟩ : ByteArray)).length : Int))), (37, (.int .i64 x3075)), (50, (.int .i64 t3091)), (51, (.pointer (some ⟨g3013, 3, none⟩)))] [] (fun fb => by kernel_rfl) rfl trivial ?_
                refine WL.store hS3090 1 rfl [(3, (.int .i64 t3091))] #[(.int .i64 x3071), (.int .i64 x3072), (.int .i64 x3073), (.int .i64 t3091)] (fun fb => by kernel_rfl) (by kernel_rfl) rfl [0, 2, 3] (by decide) (by decide) (fun w3103 hS3104 => ?_)
                refine ⟨trivial, ?_⟩
                refine WL.done rfl ?_
                refine WX.blockN (WX.next ?_)
                refine WC.region ?_
                refine seg 2 [] [0, 4, 8, 19, 20, 21, 35, 36, 37] [(0, (.string p0)), (4, (.slice A2988 l2990.length c2989)), (8, (.pointer (some ⟨g3013, 0, none⟩))), (19, (.slice A2743 (splitP p0 (⟨#[32]⟩ : ByteArray)).length c2744)), (20, (.int .i64 ((splitP p0 (⟨#[32]⟩ : ByteArray)).length : Int))), (21, (.int .i64 x2991)), (35, (.slice A3007 (splitP (rdD (splitP p0 (⟨#[32]⟩ : ByteArray)) x2991 ByteArray.empty) (⟨#[46]⟩ : ByteArray)).length c3008)), (36, (.int .i64 ((splitP (rdD (splitP p0 (⟨#[32]⟩ : ByteArray)) x2991 ByteArray.empty) (⟨#[46]⟩ : ByteArray)).length : Int))), (37, (.int .i64 (w64 (x3075 + 1))))] [] (fun fb => by kernel_rfl) rfl trivial ?_
                refine WL.done rfl ?_
                exact WX.again k3082 (Nat.lt_succ_self _) (x3071, x3072, x3073, t3091, w64 (x3075 + 1)) [0, 4, 8, 19, 20, 21, 35, 36, 37] rfl ⟨(hS3104.subR [0]).sub [1, 0, 2, 3] (by decide), hl3085⟩
              cases hl3085
            refine WC.condF2 (fun fb => by kernel_rfl) h3086 ?_
            refine WC.exit ?_
            injection hl3085 with hl3085
            exact WX.thenX (WX.thenX (WX.blockHere (WX.to Kx3080 (x3071, x3072, x3073, x3074) [0, 4, 8, 19, 20, 21] rfl ⟨(hS3084.subR [0]).sub [0, 1, 2] (by decide), hl3085.symm⟩)))
        rintro y3108 w3105 ⟨hS3106, hq3107⟩
        subst hq3107
        refine WX.next ?_
        refine WC.region ?_
        refine seg 10 [.v (.int .i64 x3080.1), .v (.int .i64 x3080.2.1), .v (.int .i64 x3080.2.2.1), .v (.int .i64 x3080.2.2.2)] [0, 19, 20, 21, 53, 62] [(0, (.string p0)), (19, (.slice A2743 (splitP p0 (⟨#[32]⟩ : ByteArray)).length c2744)), (20, (.int .i64 ((splitP p0 (⟨#[32]⟩ : ByteArray)).length : Int))), (21, (.int .i64 x2991)), (53, (.slice A2988 l2990.length c2989)), (62, (.agg #[(.int .i64 x3080.1), (.int .i64 x3080.2.1), (.int .i64 x3080.2.2.1), (.int .i64 x3080.2.2.2)]))] [.cell ⟨g3013, 0, none⟩ (.int .i64 x3080.1), .cell ⟨g3013, 1, none⟩ (.int .i64 x3080.2.1), .cell ⟨g3013, 2, none⟩ (.int .i64 x3080.2.2.1), .cell ⟨g3013, 3, none⟩ (.int .i64 x3080.2.2.2)] (fun fb => by kernel_rfl) rfl ⟨hS3106.cell 1 rfl 0 rfl, hS3106.cell 1 rfl 1 rfl, hS3106.cell 1 rfl 2 rfl, hS3106.cell 1 rfl 3 rfl, trivial⟩ ?_
        refine WL.new hS3106 63 [] (fun g => (.slice (some ⟨g, 0, none⟩) 1 1)) (.cells #[(.int .i64 x3080.1), (.int .i64 x3080.2.1), (.int .i64 x3080.2.2.1), (.int .i64 x3080.2.2.2)] 62 (0, 0)) [] (fun fb g => by kernel_rfl) trivial (fun g3109 w3110 hS3111 => ?_)
        refine ⟨trivial, ?_⟩
        have hS3113 : St NoS w w3110 [cel ⟨2, 0, none⟩ (.int .i64 mG)] [rowO 62 enc_Tile (some ⟨g3109, 0, none⟩) 1 [(Tile.mk x3080.1 x3080.2.1 x3080.2.2.1 x3080.2.2.2)], rowO 62 enc_Tile A2988 c2989 l2990, blk g3013 (.cells #[(.int .i64 x3080.1), (.int .i64 x3080.2.1), (.int .i64 x3080.2.2.1), (.int .i64 x3080.2.2.2)] 56 (0, 0)), rowO 9 encStr A2743 c2744 (splitP p0 (⟨#[32]⟩ : ByteArray))] := hS3111.map1 0 _ (fun h => rowO.ofBlk h rfl (Nat.le_of_ble_eq_true (by kernel_rfl))) (fun _ h => by obtain ⟨_, h1, h2⟩ := h; injection h1 with h1; subst h1; exact h2) [1, 2, 3] (by decide) (by decide)
        obtain ⟨h3114, hl3000⟩ := as_some hl3000
        refine WL.append hS3113 1 (d := 64) (tS := 23) (z := (.agg #[(.int .i64 0), (.int .i64 0), (.int .i64 0), (.int .i64 0)])) (bytes := 32) (c2 := 1) rfl (fun fb => by kernel_rfl) (rowO.rd (hS3113.own 0).1) (by kernel_rfl) (by kernel_rfl) rfl (by decide) h3114 (by decide) [0, 2, 3] (by decide) (by decide) (fun A3115 c3116 w3117 hS3118 => ?_)
        refine ⟨trivial, ?_⟩
        refine seg 13 [] [0, 4, 19, 20, 21] [(0, (.string p0)), (4, (.slice A3115 (l2990 ++ [(Tile.mk x3080.1 x3080.2.1 x3080.2.2.1 x3080.2.2.2)]).length c3116)), (19, (.slice A2743 (splitP p0 (⟨#[32]⟩ : ByteArray)).length c2744)), (20, (.int .i64 ((splitP p0 (⟨#[32]⟩ : ByteArray)).length : Int))), (21, (.int .i64 x2991))] [] (fun fb => by kernel_rfl) rfl trivial ?_
        refine WL.done rfl ?_
        refine WX.blockN (WX.next ?_)
        refine WC.region ?_
        refine seg 2 [] [0, 4, 19, 20, 21] [(0, (.string p0)), (4, (.slice A3115 (l2990 ++ [(Tile.mk x3080.1 x3080.2.1 x3080.2.2.1 x3080.2.2.2)]).length c3116)), (19, (.slice A2743 (splitP p0 (⟨#[32]⟩ : ByteArray)).length c2744)), (20, (.int .i64 ((splitP p0 (⟨#[32]⟩ : ByteArray)).length : Int))), (21, (.int .i64 (w64 (x2991 + 1))))] [] (fun fb => by kernel_rfl) rfl trivial ?_
        refine WL.done rfl ?_
        exact WX.again k2997 (Nat.lt_succ_self _) ((l2990 ++ [(Tile.mk x3080.1 x3080.2.1 x3080.2.2.1 x3080.2.2.2)], w64 (x2991 + 1)), A3115, c3116) [0, 4, 19, 20, 21] rfl ⟨(hS3118.subR [0]).sub [0, 3] (by decide), hl3000⟩
      refine WC.condF2 (fun fb => by kernel_rfl) h3001 ?_
      refine WC.exit ?_
      injection hl3000 with hl3000
      exact WX.thenX (WX.thenX (WX.blockHere (WX.to Kx2995 (l2990, A2988, c2989) [0, 4] rfl ⟨(hS2999.subR [0]).sub [0] (by decide), hl3000.symm⟩)))
  rintro ⟨y3122, A2992, c2993⟩ w3119 ⟨hS3120, hq3121⟩
  subst hq3121
  have hf := sum_inr hf
  refine WX.next ?_
  refine WC.seq ?_
  refine WC.seq ?_
  refine WC.region ?_
  refine seg 1 [] [0, 4, 66] [(0, (.string p0)), (4, (.slice A2992 y3122.length c2993)), (66, (.slice A2992 y3122.length c2993))] [] (fun fb => by kernel_rfl) rfl trivial ?_
  obtain ⟨t3312, ht3313, hf⟩ := bind_some hf
  refine WL.call (some 67) 22 #[(.slice A2992 y3122.length c2993)] (fun fb => by kernel_rfl) (tile_Valid_calls _ y3122 A2992 c2993 t3312 _ (hS3120.ow 0).ofO ht3313) (fun v w3314 hR3315 => ?_)
  obtain ⟨rfl, hk_⟩ := hR3315
  have hS3316 := hS3120.keepN hk_
  refine ⟨trivial, ?_⟩
  refine seg 4 [] [0, 4, 69] [(0, (.string p0)), (4, (.slice A2992 y3122.length c2993)), (69, (.bool (!t3312)))] [] (fun fb => by kernel_rfl) rfl trivial ?_
  obtain ⟨x3931, hx3932, hf⟩ := bind_some hf
  refine WL.cutW (T := Bool) 9 (fun t => [(4, (.slice A2992 y3122.length c2993)), (74, (.bool t))]) (fun t w1 => (St NoS w w1 [cel ⟨2, 0, none⟩ (.int .i64 mG)] [rowO 62 enc_Tile A2992 c2993 y3122] ∧ x3931 = t) ∧ CellsOK [] w1) (fun K => ?_) ?_
  ·
    rcases br_some hx3932 with ⟨h3933, hx3932⟩ | ⟨h3933, hx3932⟩
    ·
      refine WL.setB 69 h3933 rfl ?_
      refine seg 9 [] [4, 74] [(4, (.slice A2992 y3122.length c2993)), (74, (.bool true))] [] (fun fb => by kernel_rfl) rfl trivial ?_
      injection hx3932 with hx3932
      exact WL.to K true [4, 74] rfl ⟨⟨(hS3316.subR [0]).sub [0] (by decide), hx3932.symm⟩, trivial⟩
    refine WL.setB 69 h3933 rfl ?_
    refine seg 5 [] [0, 4, 69, 70] [(0, (.string p0)), (4, (.slice A2992 y3122.length c2993)), (69, (.bool false)), (70, (.slice A2992 y3122.length c2993))] [] (fun fb => by kernel_rfl) rfl trivial ?_
    obtain ⟨t3934, ht3935, hx3932⟩ := bind_some hx3932
    refine WL.call (some 71) 43 #[(.slice A2992 y3122.length c2993)] (fun fb => by kernel_rfl) (tile_write_calls _ y3122 A2992 c2993 t3934 _ (hS3316.ow 0).ofO ht3935) (fun v w3936 hR3937 => ?_)
    obtain ⟨rfl, hk_⟩ := hR3937
    have hS3938 := hS3316.keepN hk_
    refine ⟨trivial, ?_⟩
    refine seg 7 [] [4, 69, 71, 72] [(4, (.slice A2992 y3122.length c2993)), (69, (.bool false)), (71, (.string t3934)), (72, (.string p0))] [] (fun fb => by kernel_rfl) rfl trivial ?_
    refine seg 8 [] [4, 69, 73] [(4, (.slice A2992 y3122.length c2993)), (69, (.bool false)), (73, (.bool (!(t3934.toList == p0.toList))))] [] (fun fb => by kernel_rfl) rfl trivial ?_
    refine WL.setB 73 (congrArg not (strEq_raw t3934 p0)) rfl ?_
    refine seg 9 [] [4, 74] [(4, (.slice A2992 y3122.length c2993)), (74, (.bool (!(strEq t3934 p0))))] [] (fun fb => by kernel_rfl) rfl trivial ?_
    injection hx3932 with hx3932
    exact WL.to K (!(strEq t3934 p0)) [4, 74] rfl ⟨⟨(hS3938.subR [0]).sub [0] (by decide), hx3932.symm⟩, trivial⟩
  rintro y3939 w3941 ⟨⟨hS3942, hq3940⟩, hF3943⟩
  subst hq3940
  refine WL.done rfl ?_
  refine WX.next ?_
  rcases br_some hf with ⟨h3944, hf⟩ | ⟨h3944, hf⟩
  · refine WC.condT2 (fun fb => by kernel_rfl) h3944 ?_
    refine WC.seq ?_
    refine WC.region ?_
    refine seg 2 [] [2, 3] [(2, (.slice none 0 0)), (3, (.int .i64 3))] [] (fun fb => by kernel_rfl) rfl trivial ?_
    refine WL.done rfl ?_
    refine WX.next ?_
    refine WC.ret ?_
    have hS3945 := hS3942.nilrow 62 enc_Tile
    injection hf with hf
    subst hf
    exact WX.thenR (WX.ret_ [] (.tuple #[(.slice none ([] : List Tile).length 0), (.int .i64 3)]) [] (fun fb => by kernel_rfl) trivial ⟨_, rfl, none, 0, rfl, (hS3945.sub [0] (by decide)).noR⟩)
  refine WC.condF2 (fun fb => by kernel_rfl) h3944 ?_
  refine WC.skip ?_
  refine WX.next ?_
  refine WC.seq ?_
  refine WC.region ?_
  refine seg 3 [] [2, 3] [(2, (.slice A2992 y3122.length c2993)), (3, (.int .i64 0))] [] (fun fb => by kernel_rfl) rfl trivial ?_
  refine WL.done rfl ?_
  refine WX.next ?_
  refine WC.ret ?_
  injection hf with hf
  subst hf
  exact WX.ret_ [] (.tuple #[(.slice A2992 y3122.length c2993), (.int .i64 0)]) [] (fun fb => by kernel_rfl) trivial ⟨_, rfl, A2992, c2993, rfl, (hS3942.sub [0] (by decide)).noR⟩
theorem tile_Text_calls (k : Nat) (p0 : List Tile) (A_p0 : Option Addr) (c_p0 : Nat) (r : ByteArray × Int) (w : World) (hR0 : RO NoS w (rowR enc_Tile A_p0 c_p0 p0)) (hf : tile_Text k p0 = some r) :
    CallsR Tryd.prog 11 #[(.slice A_p0 p0.length c_p0)] w (fun v w' => v = (.tuple #[(.string r.1), (.int .i64 r.2)]) ∧ Keeps NoS w w') := by
  have hS : St NoS w w [rowR enc_Tile A_p0 c_p0 p0] [] := St.init (ro_cons hR0 (ro_nil _ _))
  refine enter 9 Tryd.func11 rfl Tryd.ntmps11 rfl ?_
  unfold tile_Text at hf
  refine WC.seq ?_
  refine WC.region ?_
  refine seg 2 [] [0] [(0, (.slice A_p0 p0.length c_p0))] [] (fun fb => by kernel_rfl) rfl trivial ?_
  refine WL.done rfl ?_
  refine WX.next ?_
  refine WC.seq ?_
  refine WC.seq ?_
  refine WC.region ?_
  refine seg 1 [] [0, 4] [(0, (.slice A_p0 p0.length c_p0)), (4, (.slice A_p0 p0.length c_p0))] [] (fun fb => by kernel_rfl) rfl trivial ?_
  obtain ⟨t3971, ht3972, hf⟩ := bind_some hf
  refine WL.call (some 5) 22 #[(.slice A_p0 p0.length c_p0)] (fun fb => by kernel_rfl) (tile_Valid_calls _ p0 A_p0 c_p0 t3971 _ (hS.rd 0) ht3972) (fun v w3973 hR3974 => ?_)
  obtain ⟨rfl, hk_⟩ := hR3974
  have hS3975 := hS.keepN hk_
  refine ⟨trivial, ?_⟩
  refine seg 3 [] [0, 6] [(0, (.slice A_p0 p0.length c_p0)), (6, (.bool (!t3971)))] [] (fun fb => by kernel_rfl) rfl trivial ?_
  refine WL.done rfl ?_
  refine WX.next ?_
  rcases br_some hf with ⟨h3976, hf⟩ | ⟨h3976, hf⟩
  · refine WC.condT2 (fun fb => by kernel_rfl) h3976 ?_
    refine WC.seq ?_
    refine WC.region ?_
    refine seg 2 [] [2, 3] [(2, (.string (⟨#[]⟩ : ByteArray))), (3, (.int .i64 1))] [] (fun fb => by kernel_rfl) rfl trivial ?_
    refine WL.done rfl ?_
    refine WX.next ?_
    refine WC.ret ?_
    injection hf with hf
    subst hf
    exact WX.thenR (WX.ret_ [] (.tuple #[(.string (⟨#[]⟩ : ByteArray)), (.int .i64 1)]) [] (fun fb => by kernel_rfl) trivial ⟨_, rfl, rfl, hS3975.keep⟩)
  refine WC.condF2 (fun fb => by kernel_rfl) h3976 ?_
  refine WC.skip ?_
  refine WX.next ?_
  refine WC.seq ?_
  refine WC.region ?_
  refine seg 1 [] [7] [(7, (.slice A_p0 p0.length c_p0))] [] (fun fb => by kernel_rfl) rfl trivial ?_
  obtain ⟨t3977, ht3978, hf⟩ := bind_some hf
  refine WL.call (some 8) 43 #[(.slice A_p0 p0.length c_p0)] (fun fb => by kernel_rfl) (tile_write_calls _ p0 A_p0 c_p0 t3977 _ (hS3975.rd 0) ht3978) (fun v w3979 hR3980 => ?_)
  obtain ⟨rfl, hk_⟩ := hR3980
  have hS3981 := hS3975.keepN hk_
  refine ⟨trivial, ?_⟩
  refine seg 4 [] [2, 3] [(2, (.string t3977)), (3, (.int .i64 0))] [] (fun fb => by kernel_rfl) rfl trivial ?_
  refine WL.done rfl ?_
  refine WX.next ?_
  refine WC.ret ?_
  injection hf with hf
  subst hf
  exact WX.ret_ [] (.tuple #[(.string t3977), (.int .i64 0)]) [] (fun fb => by kernel_rfl) trivial ⟨_, rfl, rfl, hS3981.keep⟩
theorem tile_Form_calls (p0 : Pattern) (A_p0_Cells : Option Addr) (c_p0_Cells : Nat) (r : Bool) (w : World) (hR0 : RO NoS w (rowR encInt A_p0_Cells c_p0_Cells p0.Cells)) (hf : tile_Form p0 = some r) :
    CallsR Tryd.prog 54 #[(.agg #[(.int .i64 p0.Width), (.int .i64 p0.Height), (.slice A_p0_Cells p0.Cells.length c_p0_Cells)])] w (fun v w' => v = (.bool r) ∧ Keeps NoS w w') := by
  have hS : St NoS w w [rowR encInt A_p0_Cells c_p0_Cells p0.Cells] [] := St.init (ro_cons hR0 (ro_nil _ _))
  refine enter 40 Tryd.func54 rfl Tryd.ntmps54 rfl ?_
  unfold tile_Form at hf
  refine WC.seq ?_
  refine WC.region ?_
  refine WL.new hS 1 [] (fun g => (.pointer (some ⟨g, 0, none⟩))) (.cells #[(.int .i64 p0.Width), (.int .i64 p0.Height), (.slice A_p0_Cells p0.Cells.length c_p0_Cells)] 35 (0, 0)) [] (fun fb g => by kernel_rfl) trivial (fun g4015 w4016 hS4017 => ?_)
  refine ⟨trivial, ?_⟩
  refine seg 2 [] [1] [(1, (.pointer (some ⟨g4015, 0, none⟩)))] [] (fun fb => by kernel_rfl) rfl trivial ?_
  refine WL.done rfl ?_
  refine WX.next ?_
  refine WC.seq ?_
  refine WC.region ?_
  refine seg 4 [.v (.int .i64 p0.Width)] [1, 6] [(1, (.pointer (some ⟨g4015, 0, none⟩))), (6, (.bool (decide (p0.Width ≥ 1))))] [.cell ⟨g4015, 0, none⟩ (.int .i64 p0.Width)] (fun fb => by kernel_rfl) rfl ⟨hS4017.cell 0 rfl 0 rfl, trivial⟩ ?_
  refine WL.cutV (T := Bool) 8 (fun t => [(10, (.bool t)), (1, (.pointer (some ⟨g4015, 0, none⟩)))]) (fun t => t = ((decide (p0.Width ≥ 1)) && (decide (p0.Height ≥ 1)))) (fun K => ?_) ?_
  ·
    rcases Bool.eq_false_or_eq_true (decide (p0.Width ≥ 1)) with h4019 | h4019
    ·
      refine WL.setB 6 h4019 rfl ?_
      refine seg 8 [.v (.int .i64 p0.Height)] [1, 10] [(1, (.pointer (some ⟨g4015, 0, none⟩))), (10, (.bool (decide (p0.Height ≥ 1))))] [.cell ⟨g4015, 1, none⟩ (.int .i64 p0.Height)] (fun fb => by kernel_rfl) rfl ⟨hS4017.cell 0 rfl 1 rfl, trivial⟩ ?_
      exact WL.toV K (decide (p0.Height ≥ 1)) [10, 1] rfl (by first | (rw [h4019]; done) | (rw [h4019]; rfl))
    refine WL.setB 6 h4019 rfl ?_
    refine seg 8 [] [1, 10] [(1, (.pointer (some ⟨g4015, 0, none⟩))), (10, (.bool false))] [] (fun fb => by kernel_rfl) rfl trivial ?_
    exact WL.toV K false [10, 1] rfl (by first | (rw [h4019]; done) | (rw [h4019]; rfl))
  rintro b4020 rfl
  refine seg 9 [] [1, 11] [(1, (.pointer (some ⟨g4015, 0, none⟩))), (11, (.bool ((decide (p0.Width ≥ 1)) && (decide (p0.Height ≥ 1)))))] [] (fun fb => by kernel_rfl) rfl trivial ?_
  refine WL.cutV (T := Bool) 13 (fun t => [(15, (.bool t)), (1, (.pointer (some ⟨g4015, 0, none⟩)))]) (fun t => t = (((decide (p0.Width ≥ 1)) && (decide (p0.Height ≥ 1))) && (decide (p0.Width ≤ 40000)))) (fun K => ?_) ?_
  ·
    rcases Bool.eq_false_or_eq_true ((decide (p0.Width ≥ 1)) && (decide (p0.Height ≥ 1))) with h4021 | h4021
    ·
      refine WL.setB 11 h4021 rfl ?_
      refine seg 13 [.v (.int .i64 p0.Width)] [1, 15] [(1, (.pointer (some ⟨g4015, 0, none⟩))), (15, (.bool (decide (p0.Width ≤ 40000))))] [.cell ⟨g4015, 0, none⟩ (.int .i64 p0.Width)] (fun fb => by kernel_rfl) rfl ⟨hS4017.cell 0 rfl 0 rfl, trivial⟩ ?_
      exact WL.toV K (decide (p0.Width ≤ 40000)) [15, 1] rfl (by first | (rw [h4021]; done) | (rw [h4021]; rfl))
    refine WL.setB 11 h4021 rfl ?_
    refine seg 13 [] [1, 15] [(1, (.pointer (some ⟨g4015, 0, none⟩))), (15, (.bool false))] [] (fun fb => by kernel_rfl) rfl trivial ?_
    exact WL.toV K false [15, 1] rfl (by first | (rw [h4021]; done) | (rw [h4021]; rfl))
  rintro b4022 rfl
  refine seg 14 [] [1, 16] [(1, (.pointer (some ⟨g4015, 0, none⟩))), (16, (.bool (((decide (p0.Width ≥ 1)) && (decide (p0.Height ≥ 1))) && (decide (p0.Width ≤ 40000)))))] [] (fun fb => by kernel_rfl) rfl trivial ?_
  refine WL.cutV (T := Bool) 18 (fun t => [(20, (.bool t)), (1, (.pointer (some ⟨g4015, 0, none⟩)))]) (fun t => t = ((((decide (p0.Width ≥ 1)) && (decide (p0.Height ≥ 1))) && (decide (p0.Width ≤ 40000))) && (decide (p0.Height ≤ 40000)))) (fun K => ?_) ?_
  ·
    rcases Bool.eq_false_or_eq_true (((decide (p0.Width ≥ 1)) && (decide (p0.Height ≥ 1))) && (decide (p0.Width ≤ 40000))) with h4023 | h4023
    ·
      refine WL.setB 16 h4023 rfl ?_
      refine seg 18 [.v (.int .i64 p0.Height)] [1, 20] [(1, (.pointer (some ⟨g4015, 0, none⟩))), (20, (.bool (decide (p0.Height ≤ 40000))))] [.cell ⟨g4015, 1, none⟩ (.int .i64 p0.Height)] (fun fb => by kernel_rfl) rfl ⟨hS4017.cell 0 rfl 1 rfl, trivial⟩ ?_
      exact WL.toV K (decide (p0.Height ≤ 40000)) [20, 1] rfl (by first | (rw [h4023]; done) | (rw [h4023]; rfl))
    refine WL.setB 16 h4023 rfl ?_
    refine seg 18 [] [1, 20] [(1, (.pointer (some ⟨g4015, 0, none⟩))), (20, (.bool false))] [] (fun fb => by kernel_rfl) rfl trivial ?_
    exact WL.toV K false [20, 1] rfl (by first | (rw [h4023]; done) | (rw [h4023]; rfl))
  rintro b4024 rfl
  refine seg 19 [] [1, 21] [(1, (.pointer (some ⟨g4015, 0, none⟩))), (21, (.bool ((((decide (p0.Width ≥ 1)) && (decide (p0.Height ≥ 1))) && (decide (p0.Width ≤ 40000))) && (decide (p0.Height ≤ 40000)))))] [] (fun fb => by kernel_rfl) rfl trivial ?_
  refine WL.cutV (T := Bool) 26 (fun t => [(28, (.bool t)), (1, (.pointer (some ⟨g4015, 0, none⟩)))]) (fun t => t = (((((decide (p0.Width ≥ 1)) && (decide (p0.Height ≥ 1))) && (decide (p0.Width ≤ 40000))) && (decide (p0.Height ≤ 40000))) && (decide (w64 (p0.Width * p0.Height) ≤ 40000)))) (fun K => ?_) ?_
  ·
    rcases Bool.eq_false_or_eq_true ((((decide (p0.Width ≥ 1)) && (decide (p0.Height ≥ 1))) && (decide (p0.Width ≤ 40000))) && (decide (p0.Height ≤ 40000))) with h4025 | h4025
    ·
      refine WL.setB 21 h4025 rfl ?_
      refine seg 26 [.v (.int .i64 p0.Width), .v (.int .i64 p0.Height)] [1, 28] [(1, (.pointer (some ⟨g4015, 0, none⟩))), (28, (.bool (decide (w64 (p0.Width * p0.Height) ≤ 40000))))] [.cell ⟨g4015, 0, none⟩ (.int .i64 p0.Width), .cell ⟨g4015, 1, none⟩ (.int .i64 p0.Height)] (fun fb => by kernel_rfl) rfl ⟨hS4017.cell 0 rfl 0 rfl, hS4017.cell 0 rfl 1 rfl, trivial⟩ ?_
      exact WL.toV K (decide (w64 (p0.Width * p0.Height) ≤ 40000)) [28, 1] rfl (by first | (rw [h4025]; done) | (rw [h4025]; rfl))
    refine WL.setB 21 h4025 rfl ?_
    refine seg 26 [] [1, 28] [(1, (.pointer (some ⟨g4015, 0, none⟩))), (28, (.bool false))] [] (fun fb => by kernel_rfl) rfl trivial ?_
    exact WL.toV K false [28, 1] rfl (by first | (rw [h4025]; done) | (rw [h4025]; rfl))
  rintro b4026 rfl
  refine seg 27 [] [1, 29] [(1, (.pointer (some ⟨g4015, 0, none⟩))), (29, (.bool (((((decide (p0.Width ≥ 1)) && (decide (p0.Height ≥ 1))) && (decide (p0.Width ≤ 40000))) && (decide (p0.Height ≤ 40000))) && (decide (w64 (p0.Width * p0.Height) ≤ 40000)))))] [] (fun fb => by kernel_rfl) rfl trivial ?_
  refine WL.cutV (T := Bool) 37 (fun t => [(39, (.bool t))]) (fun t => t = ((((((decide (p0.Width ≥ 1)) && (decide (p0.Height ≥ 1))) && (decide (p0.Width ≤ 40000))) && (decide (p0.Height ≤ 40000))) && (decide (w64 (p0.Width * p0.Height) ≤ 40000))) && ((p0.Cells.length : Int) == (w64 (p0.Width * p0.Height))))) (fun K => ?_) ?_
  ·
    rcases Bool.eq_false_or_eq_true (((((decide (p0.Width ≥ 1)) && (decide (p0.Height ≥ 1))) && (decide (p0.Width ≤ 40000))) && (decide (p0.Height ≤ 40000))) && (decide (w64 (p0.Width * p0.Height) ≤ 40000))) with h4027 | h4027
    ·
      refine WL.setB 29 h4027 rfl ?_
      refine seg 37 [.v (.slice A_p0_Cells p0.Cells.length c_p0_Cells), .v (.int .i64 p0.Width), .v (.int .i64 p0.Height)] [39] [(39, (.bool ((p0.Cells.length : Int) == (w64 (p0.Width * p0.Height)))))] [.cell ⟨g4015, 2, none⟩ (.slice A_p0_Cells p0.Cells.length c_p0_Cells), .cell ⟨g4015, 0, none⟩ (.int .i64 p0.Width), .cell ⟨g4015, 1, none⟩ (.int .i64 p0.Height)] (fun fb => by kernel_rfl) rfl ⟨hS4017.cell 0 rfl 2 rfl, hS4017.cell 0 rfl 0 rfl, hS4017.cell 0 rfl 1 rfl, trivial⟩ ?_
      exact WL.toV K ((p0.Cells.length : Int) == (w64 (p0.Width * p0.Height))) [39] rfl (by first | (rw [h4027]; done) | (rw [h4027]; rfl))
    refine WL.setB 29 h4027 rfl ?_
    refine seg 37 [] [39] [(39, (.bool false))] [] (fun fb => by kernel_rfl) rfl trivial ?_
    exact WL.toV K false [39] rfl (by first | (rw [h4027]; done) | (rw [h4027]; rfl))
  rintro b4028 rfl
  refine seg 38 [] [2] [(2, (.bool ((((((decide (p0.Width ≥ 1)) && (decide (p0.Height ≥ 1))) && (decide (p0.Width ≤ 40000))) && (decide (p0.Height ≤ 40000))) && (decide (w64 (p0.Width * p0.Height) ≤ 40000))) && ((p0.Cells.length : Int) == (w64 (p0.Width * p0.Height))))))] [] (fun fb => by kernel_rfl) rfl trivial ?_
  refine WL.done rfl ?_
  refine WX.next ?_
  refine WC.ret ?_
  injection hf with hf
  subst hf
  exact WX.ret_ [] (.bool ((((((decide (p0.Width ≥ 1)) && (decide (p0.Height ≥ 1))) && (decide (p0.Width ≤ 40000))) && (decide (p0.Height ≤ 40000))) && (decide (w64 (p0.Width * p0.Height) ≤ 40000))) && ((p0.Cells.length : Int) == (w64 (p0.Width * p0.Height))))) [] (fun fb => by kernel_rfl) trivial ⟨_, rfl, rfl, hS4017.keep⟩
theorem tile_of_1_calls (p0 : Int) (f0 : List Tile) (g_f0 : Nat) (A_f0 : Option Addr) (c_f0 : Nat) (r : Bool) (w : World) (hR0 : RO NoS w (blk g_f0 (.cells #[(.slice A_f0 f0.length c_f0)] 23 (0, 0)))) (hR1 : RO NoS w (rowR enc_Tile A_f0 c_f0 f0)) (hf : tile_of_1 p0 f0 = some r) :
    CallsR Tryd.prog 63 #[(.int .i64 p0), (.pointer (some ⟨g_f0, 0, none⟩))] w (fun v w' => v = (.bool r) ∧ Keeps NoS w w') := by
  have hS : St NoS w w [blk g_f0 (.cells #[(.slice A_f0 f0.length c_f0)] 23 (0, 0)), rowR enc_Tile A_f0 c_f0 f0] [] := St.init (ro_cons hR0 (ro_cons hR1 (ro_nil _ _)))
  refine enter 12 Tryd.func63 rfl Tryd.ntmps63 rfl ?_
  unfold tile_of_1 at hf
  refine WC.seq ?_
  refine WC.region ?_
  refine seg 1 [] [0, 1] [(0, (.int .i64 p0)), (1, (.pointer (some ⟨g_f0, 0, none⟩)))] [] (fun fb => by kernel_rfl) rfl trivial ?_
  refine WL.done rfl ?_
  refine WX.next ?_
  refine WC.seq ?_
  refine WC.region ?_
  refine seg 3 [] [0, 1, 6] [(0, (.int .i64 p0)), (1, (.pointer (some ⟨g_f0, 0, none⟩))), (6, (.bool (decide (p0 < 0))))] [] (fun fb => by kernel_rfl) rfl trivial ?_
  refine WL.cutV (T := Bool) 8 (fun t => [(11, (.bool t))]) (fun t => t = ((decide (p0 < 0)) || (decide (p0 ≥ (f0.length : Int))))) (fun K => ?_) ?_
  ·
    rcases Bool.eq_false_or_eq_true (decide (p0 < 0)) with h4050 | h4050
    ·
      refine WL.setB 6 h4050 rfl ?_
      refine seg 8 [] [11] [(11, (.bool true))] [] (fun fb => by kernel_rfl) rfl trivial ?_
      exact WL.toV K true [11] rfl (by first | (rw [h4050]; done) | (rw [h4050]; rfl))
    refine WL.setB 6 h4050 rfl ?_
    refine seg 8 [.v (.slice A_f0 f0.length c_f0)] [11] [(11, (.bool (decide (p0 ≥ (f0.length : Int)))))] [.cell ⟨g_f0, 0, none⟩ (.slice A_f0 f0.length c_f0)] (fun fb => by kernel_rfl) rfl ⟨blk_cell (hS.rd 0).1 0 rfl, trivial⟩ ?_
    exact WL.toV K (decide (p0 ≥ (f0.length : Int))) [11] rfl (by first | (rw [h4050]; done) | (rw [h4050]; rfl))
  rintro b4051 rfl
  refine seg 9 [] [3] [(3, (.bool ((decide (p0 < 0)) || (decide (p0 ≥ (f0.length : Int))))))] [] (fun fb => by kernel_rfl) rfl trivial ?_
  refine WL.done rfl ?_
  refine WX.next ?_
  refine WC.ret ?_
  injection hf with hf
  subst hf
  exact WX.ret_ [] (.bool ((decide (p0 < 0)) || (decide (p0 ≥ (f0.length : Int))))) [] (fun fb => by kernel_rfl) trivial ⟨_, rfl, rfl, hS.keep⟩
theorem slices_IndexFunc_int_int_with_tile_of_1_calls (k : Nat) (p0 : List Int) (p1_0 : List Tile) (A_p0 : Option Addr) (c_p0 : Nat) (g_p1_0 : Nat) (A_p1_0 : Option Addr) (c_p1_0 : Nat) (r : Int) (w : World) (hR0 : RO NoS w (rowR encInt A_p0 c_p0 p0)) (hR1 : RO NoS w (blk g_p1_0 (.cells #[(.slice A_p1_0 p1_0.length c_p1_0)] 23 (0, 0)))) (hR2 : RO NoS w (rowR enc_Tile A_p1_0 c_p1_0 p1_0)) (hf : slices_IndexFunc_int_int_with_tile_of_1 k p0 p1_0 = some r) :
    CallsR Tryd.prog 78 #[(.slice A_p0 p0.length c_p0), (.func (.func 63) #[] #[(.pointer (some ⟨g_p1_0, 0, none⟩))])] w (fun v w' => v = (.int .i64 r) ∧ Keeps NoS w w') := by
  have hS : St NoS w w [rowR encInt A_p0 c_p0 p0, blk g_p1_0 (.cells #[(.slice A_p1_0 p1_0.length c_p1_0)] 23 (0, 0)), rowR enc_Tile A_p1_0 c_p1_0 p1_0] [] := St.init (ro_cons hR0 (ro_cons hR1 (ro_cons hR2 (ro_nil _ _))))
  refine enter 19 Tryd.func78 rfl Tryd.ntmps78 rfl ?_
  unfold slices_IndexFunc_int_int_with_tile_of_1 at hf
  refine WC.seq ?_
  refine WC.region ?_
  refine seg 1 [] [0, 1] [(0, (.slice A_p0 p0.length c_p0)), (1, (.func (.func 63) #[] #[(.pointer (some ⟨g_p1_0, 0, none⟩))]))] [] (fun fb => by kernel_rfl) rfl trivial ?_
  refine WL.done rfl ?_
  refine WX.next ?_
  refine WC.seq ?_
  refine WC.seq ?_
  refine WC.region ?_
  refine seg 3 [] [0, 1, 7, 8] [(0, (.slice A_p0 p0.length c_p0)), (1, (.func (.func 63) #[] #[(.pointer (some ⟨g_p1_0, 0, none⟩))])), (7, (.int .i64 (p0.length : Int))), (8, (.int .i64 0))] [] (fun fb => by kernel_rfl) rfl trivial ?_
  refine WL.done rfl ?_
  refine WX.next ?_
  obtain ⟨x4068, hx4069, hf⟩ := bind_some hf
  refine WC.cutN (T := Unit) (fun t => []) (fun t w1 => St NoS w w1 [rowR encInt A_p0 c_p0 p0, blk g_p1_0 (.cells #[(.slice A_p1_0 p1_0.length c_p1_0)] 23 (0, 0)), rowR enc_Tile A_p1_0 c_p1_0 p1_0] [] ∧ x4068 = .inr t) (fun Kx4068 => ?_) ?_
  ·
    refine WC.block ?_
    refine WC.loop (T := Int) (fun t => [(0, (.slice A_p0 p0.length c_p0)), (1, (.func (.func 63) #[] #[(.pointer (some ⟨g_p1_0, 0, none⟩))])), (7, (.int .i64 (p0.length : Int))), (8, (.int .i64 t))]) (fun n t w1 => St NoS w w1 [rowR encInt A_p0 c_p0 p0, blk g_p1_0 (.cells #[(.slice A_p1_0 p1_0.length c_p1_0)] 23 (0, 0)), rowR enc_Tile A_p1_0 c_p1_0 p1_0] [] ∧ slices_IndexFunc_int_int_with_tile_of_1.l0 n t p0 p1_0 = some x4068) k 0 [0, 1, 7, 8] rfl ⟨(hS.subR [0, 1, 2]).sub [] (by decide), hx4069⟩ ?_
    rintro k4070 x4067 w4071 ⟨hS4072, hl4073⟩
    cases k4070 with
    | zero => rw [slices_IndexFunc_int_int_with_tile_of_1.l0] at hl4073; cases hl4073
    | succ k4070 =>
      rw [slices_IndexFunc_int_int_with_tile_of_1.l0] at hl4073
      refine WC.seq ?_
      refine WC.region ?_
      refine seg 1 [] [0, 1, 7, 8, 9] [(0, (.slice A_p0 p0.length c_p0)), (1, (.func (.func 63) #[] #[(.pointer (some ⟨g_p1_0, 0, none⟩))])), (7, (.int .i64 (p0.length : Int))), (8, (.int .i64 x4067)), (9, (.bool (decide (x4067 < (p0.length : Int)))))] [] (fun fb => by kernel_rfl) rfl trivial ?_
      refine WL.done rfl ?_
      refine WX.next ?_
      refine WC.seq ?_
      rcases br_some hl4073 with ⟨h4074, hl4073⟩ | ⟨h4074, hl4073⟩
      · refine WC.condT2 (fun fb => by kernel_rfl) h4074 ?_
        refine WC.skip ?_
        refine WX.next ?_
        refine WC.seq ?_
        refine WC.block ?_
        refine WC.seq ?_
        refine WC.region ?_
        refine seg 2 [] [0, 1, 5, 7, 8] [(0, (.slice A_p0 p0.length c_p0)), (1, (.func (.func 63) #[] #[(.pointer (some ⟨g_p1_0, 0, none⟩))])), (5, (.int .i64 x4067)), (7, (.int .i64 (p0.length : Int))), (8, (.int .i64 x4067))] [] (fun fb => by kernel_rfl) rfl trivial ?_
        refine WL.done rfl ?_
        refine WX.next ?_
        refine WC.seq ?_
        refine WC.region ?_
        refine seg 3 [] [0, 1, 5, 7, 8, 11, 12, 13] [(0, (.slice A_p0 p0.length c_p0)), (1, (.func (.func 63) #[] #[(.pointer (some ⟨g_p1_0, 0, none⟩))])), (5, (.int .i64 x4067)), (7, (.int .i64 (p0.length : Int))), (8, (.int .i64 x4067)), (11, (.func (.func 63) #[] #[(.pointer (some ⟨g_p1_0, 0, none⟩))])), (12, (.slice A_p0 p0.length c_p0)), (13, (.int .i64 x4067))] [] (fun fb => by kernel_rfl) rfl trivial ?_
        obtain ⟨h4075, hl4073⟩ := as_some hl4073
        refine seg 5 [.v (.int .i64 (rdD p0 x4067 0))] [0, 1, 5, 7, 8, 11, 15] [(0, (.slice A_p0 p0.length c_p0)), (1, (.func (.func 63) #[] #[(.pointer (some ⟨g_p1_0, 0, none⟩))])), (5, (.int .i64 x4067)), (7, (.int .i64 (p0.length : Int))), (8, (.int .i64 x4067)), (11, (.func (.func 63) #[] #[(.pointer (some ⟨g_p1_0, 0, none⟩))])), (15, (.int .i64 (rdD p0 x4067 0)))] [.idx A_p0 x4067 p0.length, .cell ((adr A_p0).add ((x4067).toNat * 1)) (.int .i64 (rdD p0 x4067 0))] (fun fb => by kernel_rfl) rfl ⟨rowR.adr (hS4072.rd 0).1 h4075.1 h4075.2, rowR.cell (hS4072.rd 0).1 0 h4075.1 h4075.2 0 rfl, trivial⟩ ?_
        obtain ⟨t4076, ht4077, hl4073⟩ := bind_some hl4073
        refine WL.call (some 16) 63 #[(.int .i64 (rdD p0 x4067 0)), (.pointer (some ⟨g_p1_0, 0, none⟩))] (fun fb => by kernel_rfl) (tile_of_1_calls (rdD p0 x4067 0) p1_0 g_p1_0 A_p1_0 c_p1_0 t4076 _ (hS4072.rd 1) (hS4072.rd 2) ht4077) (fun v w4078 hR4079 => ?_)
        obtain ⟨rfl, hk_⟩ := hR4079
        have hS4080 := hS4072.keepN hk_
        refine ⟨trivial, ?_⟩
        refine WL.done rfl ?_
        refine WX.next ?_
        rcases br_some hl4073 with ⟨h4081, hl4073⟩ | ⟨h4081, hl4073⟩
        · refine WC.condT2 (fun fb => by kernel_rfl) h4081 ?_
          refine WC.seq ?_
          refine WC.region ?_
          refine seg 2 [] [4] [(4, (.int .i64 x4067))] [] (fun fb => by kernel_rfl) rfl trivial ?_
          refine WL.done rfl ?_
          refine WX.next ?_
          refine WC.ret ?_
          injection hl4073 with hl4073
          subst hl4073
          injection hf with hf
          subst hf
          exact WX.blockR (WX.thenR (WX.thenR (WX.blockR (WX.thenR (WX.ret_ [] (.int .i64 x4067) [] (fun fb => by kernel_rfl) trivial ⟨_, rfl, rfl, hS4080.keep⟩)))))
        refine WC.condF2 (fun fb => by kernel_rfl) h4081 ?_
        refine WC.skip ?_
        refine WX.blockN (WX.next ?_)
        refine WC.region ?_
        refine seg 2 [] [0, 1, 7, 8] [(0, (.slice A_p0 p0.length c_p0)), (1, (.func (.func 63) #[] #[(.pointer (some ⟨g_p1_0, 0, none⟩))])), (7, (.int .i64 (p0.length : Int))), (8, (.int .i64 (w64 (x4067 + 1))))] [] (fun fb => by kernel_rfl) rfl trivial ?_
        refine WL.done rfl ?_
        exact WX.again k4070 (Nat.lt_succ_self _) (w64 (x4067 + 1)) [0, 1, 7, 8] rfl ⟨(hS4080.subR [0, 1, 2]).sub [] (by decide), hl4073⟩
      refine WC.condF2 (fun fb => by kernel_rfl) h4074 ?_
      refine WC.exit ?_
      injection hl4073 with hl4073
      exact WX.thenX (WX.thenX (WX.blockHere (WX.to Kx4068 () [] rfl ⟨(hS4072.subR [0, 1, 2]).sub [] (by decide), hl4073.symm⟩)))
  rintro y4085 w4082 ⟨hS4083, hq4084⟩
  subst hq4084
  have hf := sum_inr hf
  refine WX.next ?_
  refine WC.seq ?_
  refine WC.region ?_
  refine seg 1 [] [4] [(4, (.int .i64 (-1)))] [] (fun fb => by kernel_rfl) rfl trivial ?_
  refine WL.done rfl ?_
  refine WX.next ?_
  refine WC.ret ?_
  injection hf with hf
  subst hf
  exact WX.ret_ [] (.int .i64 (-1)) [] (fun fb => by kernel_rfl) trivial ⟨_, rfl, rfl, hS4083.keep⟩
theorem slices_ContainsFunc_int_int_with_tile_of_1_calls (k : Nat) (p0 : List Int) (p1_0 : List Tile) (A_p0 : Option Addr) (c_p0 : Nat) (g_p1_0 : Nat) (A_p1_0 : Option Addr) (c_p1_0 : Nat) (r : Bool) (w : World) (hR0 : RO NoS w (rowR encInt A_p0 c_p0 p0)) (hR1 : RO NoS w (blk g_p1_0 (.cells #[(.slice A_p1_0 p1_0.length c_p1_0)] 23 (0, 0)))) (hR2 : RO NoS w (rowR enc_Tile A_p1_0 c_p1_0 p1_0)) (hf : slices_ContainsFunc_int_int_with_tile_of_1 k p0 p1_0 = some r) :
    CallsR Tryd.prog 62 #[(.slice A_p0 p0.length c_p0), (.func (.func 63) #[] #[(.pointer (some ⟨g_p1_0, 0, none⟩))])] w (fun v w' => v = (.bool r) ∧ Keeps NoS w w') := by
  have hS : St NoS w w [rowR encInt A_p0 c_p0 p0, blk g_p1_0 (.cells #[(.slice A_p1_0 p1_0.length c_p1_0)] 23 (0, 0)), rowR enc_Tile A_p1_0 c_p1_0 p1_0] [] := St.init (ro_cons hR0 (ro_cons hR1 (ro_cons hR2 (ro_nil _ _))))
  refine enter 9 Tryd.func62 rfl Tryd.ntmps62 rfl ?_
  unfold slices_ContainsFunc_int_int_with_tile_of_1 at hf
  refine WC.seq ?_
  refine WC.region ?_
  refine seg 1 [] [0, 1] [(0, (.slice A_p0 p0.length c_p0)), (1, (.func (.func 63) #[] #[(.pointer (some ⟨g_p1_0, 0, none⟩))]))] [] (fun fb => by kernel_rfl) rfl trivial ?_
  refine WL.done rfl ?_
  refine WX.next ?_
  refine WC.seq ?_
  refine WC.region ?_
  refine seg 2 [] [5, 6] [(5, (.slice A_p0 p0.length c_p0)), (6, (.func (.func 63) #[] #[(.pointer (some ⟨g_p1_0, 0, none⟩))]))] [] (fun fb => by kernel_rfl) rfl trivial ?_
  obtain ⟨t4087, ht4088, hf⟩ := bind_some hf
  refine WL.call (some 7) 78 #[(.slice A_p0 p0.length c_p0), (.func (.func 63) #[] #[(.pointer (some ⟨g_p1_0, 0, none⟩))])] (fun fb => by kernel_rfl) (slices_IndexFunc_int_int_with_tile_of_1_calls _ p0 p1_0 A_p0 c_p0 g_p1_0 A_p1_0 c_p1_0 t4087 _ (hS.rd 0) (hS.rd 1) (hS.rd 2) ht4088) (fun v w4089 hR4090 => ?_)
  obtain ⟨rfl, hk_⟩ := hR4090
  have hS4091 := hS.keepN hk_
  refine ⟨trivial, ?_⟩
  refine seg 5 [] [4] [(4, (.bool (decide (t4087 ≥ 0))))] [] (fun fb => by kernel_rfl) rfl trivial ?_
  refine WL.done rfl ?_
  refine WX.next ?_
  refine WC.ret ?_
  injection hf with hf
  subst hf
  exact WX.ret_ [] (.bool (decide (t4087 ≥ 0))) [] (fun fb => by kernel_rfl) trivial ⟨_, rfl, rfl, hS4091.keep⟩
theorem tile_of_calls (k : Nat) (p0 : List Tile) (p1 : Pattern) (A_p0 : Option Addr) (c_p0 : Nat) (A_p1_Cells : Option Addr) (c_p1_Cells : Nat) (r : Bool) (w : World) (hR0 : RO NoS w (rowR enc_Tile A_p0 c_p0 p0)) (hR1 : RO NoS w (rowR encInt A_p1_Cells c_p1_Cells p1.Cells)) (hf : tile_of k p0 p1 = some r) :
    CallsR Tryd.prog 44 #[(.slice A_p0 p0.length c_p0), (.agg #[(.int .i64 p1.Width), (.int .i64 p1.Height), (.slice A_p1_Cells p1.Cells.length c_p1_Cells)])] w (fun v w' => v = (.bool r) ∧ Keeps NoS w w') := by
  have hS : St NoS w w [rowR enc_Tile A_p0 c_p0 p0, rowR encInt A_p1_Cells c_p1_Cells p1.Cells] [] := St.init (ro_cons hR0 (ro_cons hR1 (ro_nil _ _)))
  refine enter 18 Tryd.func44 rfl Tryd.ntmps44 rfl ?_
  unfold tile_of at hf
  refine WC.seq ?_
  refine WC.region ?_
  refine WL.new hS 2 [] (fun g => (.pointer (some ⟨g, 0, none⟩))) (.cells #[(.slice A_p0 p0.length c_p0)] 23 (0, 0)) [] (fun fb g => by kernel_rfl) trivial (fun g4002 w4003 hS4004 => ?_)
  refine ⟨trivial, ?_⟩
  refine WL.new hS4004 3 [] (fun g => (.pointer (some ⟨g, 0, none⟩))) (.cells #[(.int .i64 p1.Width), (.int .i64 p1.Height), (.slice A_p1_Cells p1.Cells.length c_p1_Cells)] 35 (0, 0)) [] (fun fb g => by kernel_rfl) trivial (fun g4006 w4007 hS4008 => ?_)
  refine ⟨trivial, ?_⟩
  refine seg 3 [] [2, 3] [(2, (.pointer (some ⟨g4002, 0, none⟩))), (3, (.pointer (some ⟨g4006, 0, none⟩)))] [] (fun fb => by kernel_rfl) rfl trivial ?_
  refine WL.done rfl ?_
  refine WX.next ?_
  refine WC.seq ?_
  refine WC.region ?_
  refine seg 1 [.v (.slice A_p0 p0.length c_p0)] [2, 3, 5] [(2, (.pointer (some ⟨g4002, 0, none⟩))), (3, (.pointer (some ⟨g4006, 0, none⟩))), (5, (.slice A_p0 p0.length c_p0))] [.cell ⟨g4002, 0, none⟩ (.slice A_p0 p0.length c_p0)] (fun fb => by kernel_rfl) rfl ⟨hS4008.cell 1 rfl 0 rfl, trivial⟩ ?_
  obtain ⟨t4010, ht4011, hf⟩ := bind_some hf
  refine WL.call (some 6) 22 #[(.slice A_p0 p0.length c_p0)] (fun fb => by kernel_rfl) (tile_Valid_calls _ p0 A_p0 c_p0 t4010 _ (hS4008.rd 0) ht4011) (fun v w4012 hR4013 => ?_)
  obtain ⟨rfl, hk_⟩ := hR4013
  have hS4014 := hS4008.keepN hk_
  refine ⟨trivial, ?_⟩
  refine seg 3 [] [2, 3, 7] [(2, (.pointer (some ⟨g4002, 0, none⟩))), (3, (.pointer (some ⟨g4006, 0, none⟩))), (7, (.bool t4010))] [] (fun fb => by kernel_rfl) rfl trivial ?_
  obtain ⟨x4035, hx4036, hf⟩ := bind_some hf
  refine WL.cutW (T := Bool) 6 (fun t => [(2, (.pointer (some ⟨g4002, 0, none⟩))), (3, (.pointer (some ⟨g4006, 0, none⟩))), (10, (.bool t))]) (fun t w1 => (St NoS w w1 [rowR enc_Tile A_p0 c_p0 p0, rowR encInt A_p1_Cells c_p1_Cells p1.Cells] [blk g4002 (.cells #[(.slice A_p0 p0.length c_p0)] 23 (0, 0)), blk g4006 (.cells #[(.int .i64 p1.Width), (.int .i64 p1.Height), (.slice A_p1_Cells p1.Cells.length c_p1_Cells)] 35 (0, 0))] ∧ x4035 = t) ∧ CellsOK [] w1) (fun K => ?_) ?_
  ·
    rcases br_some hx4036 with ⟨h4037, hx4036⟩ | ⟨h4037, hx4036⟩
    ·
      refine WL.setB 7 h4037 rfl ?_
      refine seg 4 [.v (.int .i64 p1.Width), .v (.int .i64 p1.Height), .v (.slice A_p1_Cells p1.Cells.length c_p1_Cells)] [2, 3, 7, 8] [(2, (.pointer (some ⟨g4002, 0, none⟩))), (3, (.pointer (some ⟨g4006, 0, none⟩))), (7, (.bool true)), (8, (.agg #[(.int .i64 p1.Width), (.int .i64 p1.Height), (.slice A_p1_Cells p1.Cells.length c_p1_Cells)]))] [.cell ⟨g4006, 0, none⟩ (.int .i64 p1.Width), .cell ⟨g4006, 1, none⟩ (.int .i64 p1.Height), .cell ⟨g4006, 2, none⟩ (.slice A_p1_Cells p1.Cells.length c_p1_Cells)] (fun fb => by kernel_rfl) rfl ⟨hS4014.cell 0 rfl 0 rfl, hS4014.cell 0 rfl 1 rfl, hS4014.cell 0 rfl 2 rfl, trivial⟩ ?_
      obtain ⟨t4038, ht4039, hx4036⟩ := bind_some hx4036
      refine WL.call (some 9) 54 #[(.agg #[(.int .i64 p1.Width), (.int .i64 p1.Height), (.slice A_p1_Cells p1.Cells.length c_p1_Cells)])] (fun fb => by kernel_rfl) (tile_Form_calls p1 A_p1_Cells c_p1_Cells t4038 _ (hS4014.rd 1) ht4039) (fun v w4040 hR4041 => ?_)
      obtain ⟨rfl, hk_⟩ := hR4041
      have hS4042 := hS4014.keepN hk_
      refine ⟨trivial, ?_⟩
      refine seg 6 [] [2, 3, 10] [(2, (.pointer (some ⟨g4002, 0, none⟩))), (3, (.pointer (some ⟨g4006, 0, none⟩))), (10, (.bool t4038))] [] (fun fb => by kernel_rfl) rfl trivial ?_
      injection hx4036 with hx4036
      exact WL.to K t4038 [2, 3, 10] rfl ⟨⟨(hS4042.subR [0, 1]).sub [1, 0] (by decide), hx4036.symm⟩, trivial⟩
    refine WL.setB 7 h4037 rfl ?_
    refine seg 6 [] [2, 3, 10] [(2, (.pointer (some ⟨g4002, 0, none⟩))), (3, (.pointer (some ⟨g4006, 0, none⟩))), (10, (.bool false))] [] (fun fb => by kernel_rfl) rfl trivial ?_
    injection hx4036 with hx4036
    exact WL.to K false [2, 3, 10] rfl ⟨⟨(hS4014.subR [0, 1]).sub [1, 0] (by decide), hx4036.symm⟩, trivial⟩
  rintro y4043 w4045 ⟨⟨hS4046, hq4044⟩, hF4047⟩
  subst hq4044
  refine seg 7 [] [2, 3, 11] [(2, (.pointer (some ⟨g4002, 0, none⟩))), (3, (.pointer (some ⟨g4006, 0, none⟩))), (11, (.bool x4035))] [] (fun fb => by kernel_rfl) rfl trivial ?_
  obtain ⟨x4098, hx4099, hf⟩ := bind_some hf
  refine WL.cutW (T := Bool) 13 (fun t => [(17, (.bool t))]) (fun t w1 => (St NoS w w1 [rowR enc_Tile A_p0 c_p0 p0, rowR encInt A_p1_Cells c_p1_Cells p1.Cells] [] ∧ x4098 = t) ∧ CellsOK [] w1) (fun K => ?_) ?_
  ·
    rcases br_some hx4099 with ⟨h4100, hx4099⟩ | ⟨h4100, hx4099⟩
    ·
      refine WL.setB 11 h4100 rfl ?_
      refine seg 10 [.v (.slice A_p1_Cells p1.Cells.length c_p1_Cells)] [11, 13, 14] [(11, (.bool true)), (13, (.slice A_p1_Cells p1.Cells.length c_p1_Cells)), (14, (.func (.func 63) #[] #[(.pointer (some ⟨g4002, 0, none⟩))]))] [.cell ⟨g4006, 2, none⟩ (.slice A_p1_Cells p1.Cells.length c_p1_Cells)] (fun fb => by kernel_rfl) rfl ⟨hS4046.cell 1 rfl 2 rfl, trivial⟩ ?_
      obtain ⟨t4101, ht4102, hx4099⟩ := bind_some hx4099
      refine WL.call (some 15) 62 #[(.slice A_p1_Cells p1.Cells.length c_p1_Cells), (.func (.func 63) #[] #[(.pointer (some ⟨g4002, 0, none⟩))])] (fun fb => by kernel_rfl) (slices_ContainsFunc_int_int_with_tile_of_1_calls _ p1.Cells p0 A_p1_Cells c_p1_Cells g4002 A_p0 c_p0 t4101 _ (hS4046.rd 1) (hS4046.ow 0) (hS4046.rd 0) ht4102) (fun v w4103 hR4104 => ?_)
      obtain ⟨rfl, hk_⟩ := hR4104
      have hS4105 := hS4046.keepN hk_
      refine ⟨trivial, ?_⟩
      refine seg 13 [] [17] [(17, (.bool (!t4101)))] [] (fun fb => by kernel_rfl) rfl trivial ?_
      injection hx4099 with hx4099
      exact WL.to K (!t4101) [17] rfl ⟨⟨(hS4105.subR [0, 1]).sub [] (by decide), hx4099.symm⟩, trivial⟩
    refine WL.setB 11 h4100 rfl ?_
    refine seg 13 [] [17] [(17, (.bool false))] [] (fun fb => by kernel_rfl) rfl trivial ?_
    injection hx4099 with hx4099
    exact WL.to K false [17] rfl ⟨⟨(hS4046.subR [0, 1]).sub [] (by decide), hx4099.symm⟩, trivial⟩
  rintro y4106 w4108 ⟨⟨hS4109, hq4107⟩, hF4110⟩
  subst hq4107
  refine seg 14 [] [4] [(4, (.bool x4098))] [] (fun fb => by kernel_rfl) rfl trivial ?_
  refine WL.done rfl ?_
  refine WX.next ?_
  refine WC.ret ?_
  injection hf with hf
  subst hf
  exact WX.ret_ [] (.bool x4098) [] (fun fb => by kernel_rfl) trivial ⟨_, rfl, rfl, hS4109.keep⟩
end Gp
