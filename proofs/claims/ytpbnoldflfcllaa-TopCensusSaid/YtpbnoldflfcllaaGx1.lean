/- Walks: each function of the program computes its plain function. -/
import Derived.Test.YtpbnoldflfcllaaGx0
set_option linter.unusedVariables false
set_option linter.unusedSimpArgs false
set_option maxHeartbeats 4000000
set_option maxRecDepth 8000
namespace Gp
open Go Gw Go.Proofs
theorem rows_rowOf_calls (k : Nat) (p0 : List Tile) (p1 : List Int) (Aa : Option Addr) (ca : Nat) (Ab : Option Addr) (cb : Nat) (r : Row) (w : World) (hR0 : RO NoS w (rowR enc_Tile Aa ca p0)) (hR1 : RO NoS w (rowR encInt Ab cb p1)) (hf : rows_rowOf k p0 p1 = some r) :
  CallsR Try.prog 96 #[(sv Aa p0 ca), (sv Ab p1 cb)] w (fun v w' => ∃ (A1_ : Option Addr), ∃ (c1_ : Nat), v = (.agg #[(sv A1_ r.Cells c1_), (iv r.South.e0), (iv r.South.e1), (iv r.South.e2), (iv r.South.e3), (iv r.South.e4), (iv r.South.e5), (iv r.South.e6), (iv r.South.e7), (iv r.North.e0), (iv r.North.e1), (iv r.North.e2), (iv r.North.e3), (iv r.North.e4), (iv r.North.e5), (iv r.North.e6), (iv r.North.e7), (iv r.West), (iv r.East)]) ∧ St NoS w w' [] [rowO 3 encInt A1_ c1_ r.Cells]) := by
 have hS : St NoS w w [rowR enc_Tile Aa ca p0, rowR encInt Ab cb p1] [] := St.init (ro_cons hR0 (ro_cons hR1 (ro_nil _ _)))
 refine enter 55 Try.func96 rfl Try.ntmps96 rfl ?_
 unfold rows_rowOf at hf
 refine WC.seq (WC.region ?_)
 refine WL.new hS 4 [] (fun g => (pt g)) (.cells #[(.slice none 0 0), (iv 0), (iv 0), (iv 0), (iv 0), (iv 0), (iv 0), (iv 0), (iv 0), (iv 0), (iv 0), (iv 0), (iv 0), (iv 0), (iv 0), (iv 0), (iv 0), (iv 0), (iv 0)] 99 (0, 0)) [] (fun fb g => by kernel_rfl) trivial (fun g9 w10 hS11 => ?_)
 refine ⟨trivial, ?_⟩
 refine WL.done rfl (WX.next (WC.seq (WC.region ?_)))
 refine sg 1 [] [0, 1, 4, 8] [(0, (sv Aa p0 ca)), (1, (sv Ab p1 cb)), (4, (pt g9)), (8, (sv Ab p1 cb))] (by kernel_rfl) ?_
 have hS12 := hS11.nilrow 3 encInt
 obtain ⟨h13, hf⟩ := as_some hf
 refine WL.append hS12 0 (d := 9) (tS := 37) (z := (iv 0)) (bytes := 8) (c2 := cb) rfl (fun fb => by kernel_rfl) (hS12.rd 1).1 (by kernel_rfl) (by kernel_rfl) rfl (by decide) h13 (by decide) [1] (by decide) (by decide) (fun A14 c15 w16 hS17 => ?_)
 refine ⟨trivial, ?_⟩
 refine sg 3 [] [0, 1, 4, 10] [(0, (sv Aa p0 ca)), (1, (sv Ab p1 cb)), (4, (pt g9)), (10, (.agg #[(sv A14 (([] : List Int) ++ p1) c15), (iv 0), (iv 0), (iv 0), (iv 0), (iv 0), (iv 0), (iv 0), (iv 0), (iv 0), (iv 0), (iv 0), (iv 0), (iv 0), (iv 0), (iv 0), (iv 0), (iv 0), (iv 0)]))] (by kernel_rfl) ?_
 refine WL.new hS17 5 [] (fun g => (pt g)) (.cells #[(.slice none 0 0), (iv 0), (iv 0), (iv 0), (iv 0), (iv 0), (iv 0), (iv 0), (iv 0), (iv 0), (iv 0), (iv 0), (iv 0), (iv 0), (iv 0), (iv 0), (iv 0), (iv 0), (iv 0)] 99 (0, 0)) [] (fun fb g => by kernel_rfl) trivial (fun g18 w19 hS20 => ?_)
 refine ⟨trivial, ?_⟩
 refine WL.store hS20 0 rfl [(0, (sv A14 (([] : List Int) ++ p1) c15)), (1, (iv 0)), (2, (iv 0)), (3, (iv 0)), (4, (iv 0)), (5, (iv 0)), (6, (iv 0)), (7, (iv 0)), (8, (iv 0)), (9, (iv 0)), (10, (iv 0)), (11, (iv 0)), (12, (iv 0)), (13, (iv 0)), (14, (iv 0)), (15, (iv 0)), (16, (iv 0)), (17, (iv 0)), (18, (iv 0))] #[(sv A14 (([] : List Int) ++ p1) c15), (iv 0), (iv 0), (iv 0), (iv 0), (iv 0), (iv 0), (iv 0), (iv 0), (iv 0), (iv 0), (iv 0), (iv 0), (iv 0), (iv 0), (iv 0), (iv 0), (iv 0), (iv 0)] (fun fb => by kernel_rfl) (by kernel_rfl) (by kernel_rfl) [1, 2] (by decide) (by decide) (fun w21 hS22 => ?_)
 refine ⟨trivial, ?_⟩
 refine WL.done rfl (WX.next (WC.seq (WC.seq (WC.region ?_))))
 refine sg 3 [] [0, 1, 4, 5, 11, 12, 13] [(0, (sv Aa p0 ca)), (1, (sv Ab p1 cb)), (4, (pt g9)), (5, (pt g18)), (11, (sv Ab p1 cb)), (12, (iv (p1.length : Int))), (13, (iv 0))] (by kernel_rfl) ?_
 refine WL.done rfl (WX.next ?_)
 obtain ⟨x26, hx27, hf⟩ := bind_some hf
 refine WC.cutN (T := A8_Int × A8_Int) (fun t => [(0, (sv Aa p0 ca)), (1, (sv Ab p1 cb)), (4, (pt g9)), (5, (pt g18))]) (fun t w1 => St NoS w w1 [rowR enc_Tile Aa ca p0, rowR encInt Ab cb p1] [blk g9 (.cells #[(.slice none 0 0), (iv 0), (iv 0), (iv 0), (iv 0), (iv 0), (iv 0), (iv 0), (iv 0), (iv 0), (iv 0), (iv 0), (iv 0), (iv 0), (iv 0), (iv 0), (iv 0), (iv 0), (iv 0)] 99 (0, 0)), blk g18 (.cells #[(sv A14 (([] : List Int) ++ p1) c15), (iv t.1.e0), (iv t.1.e1), (iv t.1.e2), (iv t.1.e3), (iv t.1.e4), (iv t.1.e5), (iv t.1.e6), (iv t.1.e7), (iv t.2.e0), (iv t.2.e1), (iv t.2.e2), (iv t.2.e3), (iv t.2.e4), (iv t.2.e5), (iv t.2.e6), (iv t.2.e7), (iv 0), (iv 0)] 99 (0, 0)), rowO 3 encInt A14 c15 (([] : List Int) ++ p1)] ∧ x26 = t) (fun Kx26 => ?_) ?_
 ·
  refine WC.block ?_
  refine WC.loop (T := A8_Int × A8_Int × Int) (fun t => [(0, (sv Aa p0 ca)), (1, (sv Ab p1 cb)), (4, (pt g9)), (5, (pt g18)), (11, (sv Ab p1 cb)), (12, (iv (p1.length : Int))), (13, (iv t.2.2))]) (fun n t w1 => St NoS w w1 [rowR enc_Tile Aa ca p0, rowR encInt Ab cb p1] [blk g9 (.cells #[(.slice none 0 0), (iv 0), (iv 0), (iv 0), (iv 0), (iv 0), (iv 0), (iv 0), (iv 0), (iv 0), (iv 0), (iv 0), (iv 0), (iv 0), (iv 0), (iv 0), (iv 0), (iv 0), (iv 0)] 99 (0, 0)), blk g18 (.cells #[(sv A14 (([] : List Int) ++ p1) c15), (iv t.1.e0), (iv t.1.e1), (iv t.1.e2), (iv t.1.e3), (iv t.1.e4), (iv t.1.e5), (iv t.1.e6), (iv t.1.e7), (iv t.2.1.e0), (iv t.2.1.e1), (iv t.2.1.e2), (iv t.2.1.e3), (iv t.2.1.e4), (iv t.2.1.e5), (iv t.2.1.e6), (iv t.2.1.e7), (iv 0), (iv 0)] 99 (0, 0)), rowO 3 encInt A14 c15 (([] : List Int) ++ p1)] ∧ rows_rowOf.l0 n t.1 t.2.1 t.2.2 p0 p1 = some x26) k ((A8_Int.mk 0 0 0 0 0 0 0 0), (A8_Int.mk 0 0 0 0 0 0 0 0), 0) [0, 1, 4, 5, 11, 12, 13] rfl ⟨(hS22.subR [0, 1]).sub [2, 0, 1] (by decide), hx27⟩ ?_
  rintro k28 ⟨a23, a24, x25⟩ w29 ⟨hS30, hl31⟩
  cases k28 with
  | zero => rw [rows_rowOf.l0] at hl31; cases hl31
  | succ k28 =>
   rw [rows_rowOf.l0] at hl31
   refine WC.seq (WC.region ?_)
   refine sg 1 [] [0, 1, 4, 5, 11, 12, 13, 14] [(0, (sv Aa p0 ca)), (1, (sv Ab p1 cb)), (4, (pt g9)), (5, (pt g18)), (11, (sv Ab p1 cb)), (12, (iv (p1.length : Int))), (13, (iv x25)), (14, (bv (decide (x25 < (p1.length : Int)))))] (by kernel_rfl) ?_
   refine WL.done rfl (WX.next (WC.seq ?_))
   rcases br_some hl31 with ⟨h32, hl31⟩ | ⟨h32, hl31⟩
   ·refine WC.condT2 (fun fb => by kernel_rfl) h32 ?_
    refine WC.skip (WX.next (WC.seq (WC.block (WC.seq (WC.region ?_)))))
    refine sg 1 [] [0, 1, 4, 5, 11, 12, 13, 15] [(0, (sv Aa p0 ca)), (1, (sv Ab p1 cb)), (4, (pt g9)), (5, (pt g18)), (11, (sv Ab p1 cb)), (12, (iv (p1.length : Int))), (13, (iv x25)), (15, (iv x25))] (by kernel_rfl) ?_
    obtain ⟨h33, hl31⟩ := as_some hl31
    refine seg 5 [.v (iv (rdD p1 x25 0))] [0, 1, 4, 5, 6, 7, 11, 12, 13] [(0, (sv Aa p0 ca)), (1, (sv Ab p1 cb)), (4, (pt g9)), (5, (pt g18)), (6, (iv x25)), (7, (iv (rdD p1 x25 0))), (11, (sv Ab p1 cb)), (12, (iv (p1.length : Int))), (13, (iv x25))] [.idx Ab x25 p1.length, .cell ((adr Ab).add ((x25).toNat * 1)) (iv (rdD p1 x25 0))] (fun fb => by kernel_rfl) rfl ⟨rowR.adr (hS30.rd 1).1 h33.1 h33.2, rowR.cell (hS30.rd 1).1 0 h33.1 h33.2 0 rfl, trivial⟩ ?_
    refine WL.done rfl (WX.next ?_)
    obtain ⟨h36, hl31⟩ := as_some hl31
    obtain ⟨h37, hl31⟩ := as_some hl31
    refine WC.regionD ([(6, (((adr Aa).add (((rdD p1 x25 0)).toNat * 4)).add 2), (iv ((rdD p0 (rdD p1 x25 0) z_Tile).S))), (11, ((adr Aa).add (((rdD p1 x25 0)).toNat * 4)), (iv ((rdD p0 (rdD p1 x25 0) z_Tile).N)))], [0, 1, 2, 3, 4, 5, 6, 7, 8, 9, 10, 11, 12, 13, 15, 16], [[], [], [], [], [2, 3], [2, 3, 4], [2, 3, 4, 5], [], [], [7, 8], [7, 8, 9], [7, 8, 9, 10], [], [0, 2, 3, 4, 5, 6, 12], [0, 2, 3, 4, 5, 6, 12, 13], [], [0, 1, 2, 3, 4, 5, 6, 7, 8, 9, 10, 11, 12, 13, 14, 15], [0, 1, 2, 3, 4, 5, 6, 7, 8, 9, 10, 11, 12, 13, 14, 15, 16]]) [[0, 1, 2, 3, 4, 5, 6, 7, 8, 9, 10, 11, 12, 13, 15, 14, 16, 17]] (by kernel_rfl) (by kernel_rfl) (NoPanic.block (NoPanic.seq (NoPanic.seq (NoPanic.block (NoPanic.seq (NoPanic.body)))))) ?_
    have hS35 := hS30.drew
    revert hS35
    generalize World.drew w29 = w34
    intro hS35
    refine ⟨⟨rowR.cell (hS35.rd 0).1 z_Tile h36.1 h36.2 2 rfl, rowR.cell (hS35.rd 0).1 z_Tile h36.1 h36.2 0 rfl, trivial⟩, forallC ?_ (forallN)⟩
    refine segF 15 [.v (iv ((rdD p0 (rdD p1 x25 0) z_Tile).S)), .v (iv ((rdD p0 (rdD p1 x25 0) z_Tile).N))] [0, 1, 4, 5, 11, 12, 13, 19, 24, 29, 31, 32] [(0, (sv Aa p0 ca)), (1, (sv Ab p1 cb)), (4, (pt g9)), (5, (pt g18)), (11, (sv Ab p1 cb)), (12, (iv (p1.length : Int))), (13, (iv x25)), (19, (iv x25)), (24, (iv ((rdD p0 (rdD p1 x25 0) z_Tile).S))), (29, (iv ((rdD p0 (rdD p1 x25 0) z_Tile).N))), (31, (.pointer (some (flatA ⟨g18, 1, none⟩ (x25.toNat * 1))))), (32, (.pointer (some ⟨g18, 9, none⟩)))] [.idx Aa (rdD p1 x25 0) p0.length, .idx Aa (rdD p1 x25 0) p0.length, .idx (some ⟨0, 0, none⟩) x25 8] [0, 1] [(6, (((adr Aa).add (((rdD p1 x25 0)).toNat * 4)).add 2), (iv ((rdD p0 (rdD p1 x25 0) z_Tile).S))), (11, ((adr Aa).add (((rdD p1 x25 0)).toNat * 4)), (iv ((rdD p0 (rdD p1 x25 0) z_Tile).N)))] (fun fb => by kernel_rfl) rfl ⟨rowR.adr (hS35.rd 0).1 h36.1 h36.2, rowR.adr (hS35.rd 0).1 h36.1 h36.2, ⟨h37.1, h37.2, rfl⟩, trivial⟩ rfl ?_
    have h40 := (cases8 (Q := fun z_ => (([(1 + z_.toNat * 1, (iv ((rdD p0 (rdD p1 x25 0) z_Tile).S)))] : List (Nat × Value)).all fun p_ => Nat.blt p_.1 (#[(sv A14 (([] : List Int) ++ p1) c15), (iv a23.e0), (iv a23.e1), (iv a23.e2), (iv a23.e3), (iv a23.e4), (iv a23.e5), (iv a23.e6), (iv a23.e7), (iv a24.e0), (iv a24.e1), (iv a24.e2), (iv a24.e3), (iv a24.e4), (iv a24.e5), (iv a24.e6), (iv a24.e7), (iv 0), (iv 0)] : Array Value).size) = true) h37 (by kernel_rfl) (by kernel_rfl) (by kernel_rfl) (by kernel_rfl) (by kernel_rfl) (by kernel_rfl) (by kernel_rfl) (by kernel_rfl))
    have h41 := (cases8 (Q := fun z_ => wrc (#[(sv A14 (([] : List Int) ++ p1) c15), (iv a23.e0), (iv a23.e1), (iv a23.e2), (iv a23.e3), (iv a23.e4), (iv a23.e5), (iv a23.e6), (iv a23.e7), (iv a24.e0), (iv a24.e1), (iv a24.e2), (iv a24.e3), (iv a24.e4), (iv a24.e5), (iv a24.e6), (iv a24.e7), (iv 0), (iv 0)] : Array Value) [(1 + z_.toNat * 1, (iv ((rdD p0 (rdD p1 x25 0) z_Tile).S)))] = (#[(sv A14 (([] : List Int) ++ p1) c15), (iv ((A8_Int.set a23 z_ ((rdD p0 (rdD p1 x25 0) z_Tile).S)).e0)), (iv ((A8_Int.set a23 z_ ((rdD p0 (rdD p1 x25 0) z_Tile).S)).e1)), (iv ((A8_Int.set a23 z_ ((rdD p0 (rdD p1 x25 0) z_Tile).S)).e2)), (iv ((A8_Int.set a23 z_ ((rdD p0 (rdD p1 x25 0) z_Tile).S)).e3)), (iv ((A8_Int.set a23 z_ ((rdD p0 (rdD p1 x25 0) z_Tile).S)).e4)), (iv ((A8_Int.set a23 z_ ((rdD p0 (rdD p1 x25 0) z_Tile).S)).e5)), (iv ((A8_Int.set a23 z_ ((rdD p0 (rdD p1 x25 0) z_Tile).S)).e6)), (iv ((A8_Int.set a23 z_ ((rdD p0 (rdD p1 x25 0) z_Tile).S)).e7)), (iv a24.e0), (iv a24.e1), (iv a24.e2), (iv a24.e3), (iv a24.e4), (iv a24.e5), (iv a24.e6), (iv a24.e7), (iv 0), (iv 0)] : Array Value)) h37 (by kernel_rfl) (by kernel_rfl) (by kernel_rfl) (by kernel_rfl) (by kernel_rfl) (by kernel_rfl) (by kernel_rfl) (by kernel_rfl))
    refine WL.store hS35 1 rfl [(1 + x25.toNat * 1, (iv ((rdD p0 (rdD p1 x25 0) z_Tile).S)))] #[(sv A14 (([] : List Int) ++ p1) c15), (iv ((A8_Int.set a23 x25 ((rdD p0 (rdD p1 x25 0) z_Tile).S)).e0)), (iv ((A8_Int.set a23 x25 ((rdD p0 (rdD p1 x25 0) z_Tile).S)).e1)), (iv ((A8_Int.set a23 x25 ((rdD p0 (rdD p1 x25 0) z_Tile).S)).e2)), (iv ((A8_Int.set a23 x25 ((rdD p0 (rdD p1 x25 0) z_Tile).S)).e3)), (iv ((A8_Int.set a23 x25 ((rdD p0 (rdD p1 x25 0) z_Tile).S)).e4)), (iv ((A8_Int.set a23 x25 ((rdD p0 (rdD p1 x25 0) z_Tile).S)).e5)), (iv ((A8_Int.set a23 x25 ((rdD p0 (rdD p1 x25 0) z_Tile).S)).e6)), (iv ((A8_Int.set a23 x25 ((rdD p0 (rdD p1 x25 0) z_Tile).S)).e7)), (iv a24.e0), (iv a24.e1), (iv a24.e2), (iv a24.e3), (iv a24.e4), (iv a24.e5), (iv a24.e6), (iv a24.e7), (iv 0), (iv 0)] (fun fb => by kernel_rfl) h40 h41 [0, 2] (by decide) (by decide) (fun w38 hS39 => ?_)
    refine ⟨⟨rowR.cell (hS39.rd 0).1 z_Tile h36.1 h36.2 0 rfl, trivial⟩, ?_⟩
    refine seg 17 [] [0, 1, 4, 5, 11, 12, 13, 29, 33] [(0, (sv Aa p0 ca)), (1, (sv Ab p1 cb)), (4, (pt g9)), (5, (pt g18)), (11, (sv Ab p1 cb)), (12, (iv (p1.length : Int))), (13, (iv x25)), (29, (iv ((rdD p0 (rdD p1 x25 0) z_Tile).N))), (33, (.pointer (some (flatA ⟨g18, 9, none⟩ (x25.toNat * 1)))))] [.idx (some ⟨0, 0, none⟩) x25 8] (fun fb => by kernel_rfl) rfl ⟨⟨h37.1, h37.2, rfl⟩, trivial⟩ ?_
    have h44 := (cases8 (Q := fun z_ => (([(9 + z_.toNat * 1, (iv ((rdD p0 (rdD p1 x25 0) z_Tile).N)))] : List (Nat × Value)).all fun p_ => Nat.blt p_.1 (#[(sv A14 (([] : List Int) ++ p1) c15), (iv ((A8_Int.set a23 x25 ((rdD p0 (rdD p1 x25 0) z_Tile).S)).e0)), (iv ((A8_Int.set a23 x25 ((rdD p0 (rdD p1 x25 0) z_Tile).S)).e1)), (iv ((A8_Int.set a23 x25 ((rdD p0 (rdD p1 x25 0) z_Tile).S)).e2)), (iv ((A8_Int.set a23 x25 ((rdD p0 (rdD p1 x25 0) z_Tile).S)).e3)), (iv ((A8_Int.set a23 x25 ((rdD p0 (rdD p1 x25 0) z_Tile).S)).e4)), (iv ((A8_Int.set a23 x25 ((rdD p0 (rdD p1 x25 0) z_Tile).S)).e5)), (iv ((A8_Int.set a23 x25 ((rdD p0 (rdD p1 x25 0) z_Tile).S)).e6)), (iv ((A8_Int.set a23 x25 ((rdD p0 (rdD p1 x25 0) z_Tile).S)).e7)), (iv a24.e0), (iv a24.e1), (iv a24.e2), (iv a24.e3), (iv a24.e4), (iv a24.e5), (iv a24.e6), (iv a24.e7), (iv 0), (iv 0)] : Array Value).size) = true) h37 (by kernel_rfl) (by kernel_rfl) (by kernel_rfl) (by kernel_rfl) (by kernel_rfl) (by kernel_rfl) (by kernel_rfl) (by kernel_rfl))
    have h45 := (cases8 (Q := fun z_ => wrc (#[(sv A14 (([] : List Int) ++ p1) c15), (iv ((A8_Int.set a23 x25 ((rdD p0 (rdD p1 x25 0) z_Tile).S)).e0)), (iv ((A8_Int.set a23 x25 ((rdD p0 (rdD p1 x25 0) z_Tile).S)).e1)), (iv ((A8_Int.set a23 x25 ((rdD p0 (rdD p1 x25 0) z_Tile).S)).e2)), (iv ((A8_Int.set a23 x25 ((rdD p0 (rdD p1 x25 0) z_Tile).S)).e3)), (iv ((A8_Int.set a23 x25 ((rdD p0 (rdD p1 x25 0) z_Tile).S)).e4)), (iv ((A8_Int.set a23 x25 ((rdD p0 (rdD p1 x25 0) z_Tile).S)).e5)), (iv ((A8_Int.set a23 x25 ((rdD p0 (rdD p1 x25 0) z_Tile).S)).e6)), (iv ((A8_Int.set a23 x25 ((rdD p0 (rdD p1 x25 0) z_Tile).S)).e7)), (iv a24.e0), (iv a24.e1), (iv a24.e2), (iv a24.e3), (iv a24.e4), (iv a24.e5), (iv a24.e6), (iv a24.e7), (iv 0), (iv 0)] : Array Value) [(9 + z_.toNat * 1, (iv ((rdD p0 (rdD p1 x25 0) z_Tile).N)))] = (#[(sv A14 (([] : List Int) ++ p1) c15), (iv ((A8_Int.set a23 x25 ((rdD p0 (rdD p1 x25 0) z_Tile).S)).e0)), (iv ((A8_Int.set a23 x25 ((rdD p0 (rdD p1 x25 0) z_Tile).S)).e1)), (iv ((A8_Int.set a23 x25 ((rdD p0 (rdD p1 x25 0) z_Tile).S)).e2)), (iv ((A8_Int.set a23 x25 ((rdD p0 (rdD p1 x25 0) z_Tile).S)).e3)), (iv ((A8_Int.set a23 x25 ((rdD p0 (rdD p1 x25 0) z_Tile).S)).e4)), (iv ((A8_Int.set a23 x25 ((rdD p0 (rdD p1 x25 0) z_Tile).S)).e5)), (iv ((A8_Int.set a23 x25 ((rdD p0 (rdD p1 x25 0) z_Tile).S)).e6)), (iv ((A8_Int.set a23 x25 ((rdD p0 (rdD p1 x25 0) z_Tile).S)).e7)), (iv ((A8_Int.set a24 z_ ((rdD p0 (rdD p1 x25 0) z_Tile).N)).e0)), (iv ((A8_Int.set a24 z_ ((rdD p0 (rdD p1 x25 0) z_Tile).N)).e1)), (iv ((A8_Int.set a24 z_ ((rdD p0 (rdD p1 x25 0) z_Tile).N)).e2)), (iv ((A8_Int.set a24 z_ ((rdD p0 (rdD p1 x25 0) z_Tile).N)).e3)), (iv ((A8_Int.set a24 z_ ((rdD p0 (rdD p1 x25 0) z_Tile).N)).e4)), (iv ((A8_Int.set a24 z_ ((rdD p0 (rdD p1 x25 0) z_Tile).N)).e5)), (iv ((A8_Int.set a24 z_ ((rdD p0 (rdD p1 x25 0) z_Tile).N)).e6)), (iv ((A8_Int.set a24 z_ ((rdD p0 (rdD p1 x25 0) z_Tile).N)).e7)), (iv 0), (iv 0)] : Array Value)) h37 (by kernel_rfl) (by kernel_rfl) (by kernel_rfl) (by kernel_rfl) (by kernel_rfl) (by kernel_rfl) (by kernel_rfl) (by kernel_rfl))
    refine WL.store hS39 0 rfl [(9 + x25.toNat * 1, (iv ((rdD p0 (rdD p1 x25 0) z_Tile).N)))] #[(sv A14 (([] : List Int) ++ p1) c15), (iv ((A8_Int.set a23 x25 ((rdD p0 (rdD p1 x25 0) z_Tile).S)).e0)), (iv ((A8_Int.set a23 x25 ((rdD p0 (rdD p1 x25 0) z_Tile).S)).e1)), (iv ((A8_Int.set a23 x25 ((rdD p0 (rdD p1 x25 0) z_Tile).S)).e2)), (iv ((A8_Int.set a23 x25 ((rdD p0 (rdD p1 x25 0) z_Tile).S)).e3)), (iv ((A8_Int.set a23 x25 ((rdD p0 (rdD p1 x25 0) z_Tile).S)).e4)), (iv ((A8_Int.set a23 x25 ((rdD p0 (rdD p1 x25 0) z_Tile).S)).e5)), (iv ((A8_Int.set a23 x25 ((rdD p0 (rdD p1 x25 0) z_Tile).S)).e6)), (iv ((A8_Int.set a23 x25 ((rdD p0 (rdD p1 x25 0) z_Tile).S)).e7)), (iv ((A8_Int.set a24 x25 ((rdD p0 (rdD p1 x25 0) z_Tile).N)).e0)), (iv ((A8_Int.set a24 x25 ((rdD p0 (rdD p1 x25 0) z_Tile).N)).e1)), (iv ((A8_Int.set a24 x25 ((rdD p0 (rdD p1 x25 0) z_Tile).N)).e2)), (iv ((A8_Int.set a24 x25 ((rdD p0 (rdD p1 x25 0) z_Tile).N)).e3)), (iv ((A8_Int.set a24 x25 ((rdD p0 (rdD p1 x25 0) z_Tile).N)).e4)), (iv ((A8_Int.set a24 x25 ((rdD p0 (rdD p1 x25 0) z_Tile).N)).e5)), (iv ((A8_Int.set a24 x25 ((rdD p0 (rdD p1 x25 0) z_Tile).N)).e6)), (iv ((A8_Int.set a24 x25 ((rdD p0 (rdD p1 x25 0) z_Tile).N)).e7)), (iv 0), (iv 0)] (fun fb => by kernel_rfl) h44 h45 [1, 2] (by decide) (by decide) (fun w42 hS43 => ?_)
    refine ⟨trivial, ?_⟩
    refine WL.done rfl ?_
    refine WX.blockN (WX.next ?_)
    refine WC.region ?_
    refine sg 2 [] [0, 1, 4, 5, 11, 12, 13] [(0, (sv Aa p0 ca)), (1, (sv Ab p1 cb)), (4, (pt g9)), (5, (pt g18)), (11, (sv Ab p1 cb)), (12, (iv (p1.length : Int))), (13, (iv (w64 (x25 + 1))))] (by kernel_rfl) ?_
    refine WL.done rfl ?_
    exact WX.again k28 (Nat.lt_succ_self _) ((A8_Int.set a23 x25 ((rdD p0 (rdD p1 x25 0) z_Tile).S)), (A8_Int.set a24 x25 ((rdD p0 (rdD p1 x25 0) z_Tile).N)), w64 (x25 + 1)) [0, 1, 4, 5, 11, 12, 13] rfl ⟨(hS43.subR [0, 1]).sub [1, 0, 2] (by decide), hl31⟩
   refine WC.condF2 (fun fb => by kernel_rfl) h32 ?_
   refine WC.exit ?_
   injection hl31 with hl31
   exact WX.thenX (WX.thenX (WX.blockHere (WX.to Kx26 (a23, a24) [0, 1, 4, 5] rfl ⟨(hS30.subR [0, 1]).sub [0, 1, 2] (by decide), hl31.symm⟩)))
 rintro y49 w46 ⟨hS47, hq48⟩
 subst hq48
 refine WX.next (WC.seq ?_)
 obtain ⟨h52, hf⟩ := as_some hf
 obtain ⟨h53, hf⟩ := as_some hf
 obtain ⟨h54, hf⟩ := as_some hf
 obtain ⟨h55, hf⟩ := as_some hf
 refine WC.regionD ([(3, ((adr Ab).add (((0 : Int)).toNat * 1)), (iv (rdD p1 (0 : Int) 0))), (6, (((adr Aa).add (((rdD p1 (0 : Int) 0)).toNat * 4)).add 3), (iv ((rdD p0 (rdD p1 (0 : Int) 0) z_Tile).W))), (13, ((adr Ab).add ((w64 ((p1.length : Int) - 1)).toNat * 1)), (iv (rdD p1 (w64 ((p1.length : Int) - 1)) 0))), (16, (((adr Aa).add (((rdD p1 (w64 ((p1.length : Int) - 1)) 0)).toNat * 4)).add 1), (iv ((rdD p0 (rdD p1 (w64 ((p1.length : Int) - 1)) 0) z_Tile).E)))], [0, 1, 2, 3, 4, 5, 6, 7, 8, 9, 10, 11, 12, 13, 14, 15, 16, 17, 19], [[], [], [1], [1, 2], [0, 1, 2, 3], [0, 1, 2, 3, 4], [0, 1, 2, 3, 4, 5], [], [], [], [9], [9, 10], [8, 9, 10, 11], [8, 9, 10, 11, 12], [7, 8, 9, 10, 11, 12, 13], [7, 8, 9, 10, 11, 12, 13, 14], [7, 8, 9, 10, 11, 12, 13, 14, 15], [0, 1, 2, 3, 4, 5, 6], [0, 1, 2, 3, 4, 5, 6, 17], [0, 1, 2, 3, 4, 5, 6, 7, 8, 9, 10, 11, 12, 13, 14, 15, 16, 17, 18], [0, 1, 2, 3, 4, 5, 6, 7, 8, 9, 10, 11, 12, 13, 14, 15, 16, 17, 18, 19]]) [[0, 1, 2, 3, 4, 5, 6, 7, 8, 9, 10, 11, 12, 13, 14, 15, 16, 17, 18, 19, 20]] (by kernel_rfl) (by kernel_rfl) (NoPanic.seq (NoPanic.body)) ?_
 have hS51 := hS47.drew
 revert hS51
 generalize World.drew w46 = w50
 intro hS51
 refine ⟨⟨rowR.cell (hS51.rd 1).1 0 h52.1 h52.2 0 rfl, rowR.cell (hS51.rd 0).1 z_Tile h53.1 h53.2 3 rfl, rowR.cell (hS51.rd 1).1 0 h54.1 h54.2 0 rfl, rowR.cell (hS51.rd 0).1 z_Tile h55.1 h55.2 1 rfl, trivial⟩, forallC ?_ (forallN)⟩
 refine segF 18 [.v (iv (rdD p1 (0 : Int) 0)), .v (iv ((rdD p0 (rdD p1 (0 : Int) 0) z_Tile).W)), .v (iv (rdD p1 (w64 ((p1.length : Int) - 1)) 0)), .v (iv ((rdD p0 (rdD p1 (w64 ((p1.length : Int) - 1)) 0) z_Tile).E))] [4, 5, 41, 51, 52] [(4, (pt g9)), (5, (pt g18)), (41, (iv ((rdD p0 (rdD p1 (0 : Int) 0) z_Tile).W))), (51, (iv ((rdD p0 (rdD p1 (w64 ((p1.length : Int) - 1)) 0) z_Tile).E))), (52, (.pointer (some ⟨g18, 17, none⟩)))] [.idx Ab (0 : Int) p1.length, .idx Aa (rdD p1 (0 : Int) 0) p0.length, .idx Ab (w64 ((p1.length : Int) - 1)) p1.length, .idx Aa (rdD p1 (w64 ((p1.length : Int) - 1)) 0) p0.length] [0, 1, 2, 3] [(3, ((adr Ab).add (((0 : Int)).toNat * 1)), (iv (rdD p1 (0 : Int) 0))), (6, (((adr Aa).add (((rdD p1 (0 : Int) 0)).toNat * 4)).add 3), (iv ((rdD p0 (rdD p1 (0 : Int) 0) z_Tile).W))), (13, ((adr Ab).add ((w64 ((p1.length : Int) - 1)).toNat * 1)), (iv (rdD p1 (w64 ((p1.length : Int) - 1)) 0))), (16, (((adr Aa).add (((rdD p1 (w64 ((p1.length : Int) - 1)) 0)).toNat * 4)).add 1), (iv ((rdD p0 (rdD p1 (w64 ((p1.length : Int) - 1)) 0) z_Tile).E)))] (fun fb => by kernel_rfl) rfl ⟨rowR.adr (hS51.rd 1).1 h52.1 h52.2, rowR.adr (hS51.rd 0).1 h53.1 h53.2, rowR.adr (hS51.rd 1).1 h54.1 h54.2, rowR.adr (hS51.rd 0).1 h55.1 h55.2, trivial⟩ rfl ?_
 refine WL.store hS51 1 rfl [(17, (iv ((rdD p0 (rdD p1 (0 : Int) 0) z_Tile).W)))] #[(sv A14 (([] : List Int) ++ p1) c15), (iv x26.1.e0), (iv x26.1.e1), (iv x26.1.e2), (iv x26.1.e3), (iv x26.1.e4), (iv x26.1.e5), (iv x26.1.e6), (iv x26.1.e7), (iv x26.2.e0), (iv x26.2.e1), (iv x26.2.e2), (iv x26.2.e3), (iv x26.2.e4), (iv x26.2.e5), (iv x26.2.e6), (iv x26.2.e7), (iv ((rdD p0 (rdD p1 (0 : Int) 0) z_Tile).W)), (iv 0)] (fun fb => by kernel_rfl) (by kernel_rfl) (by kernel_rfl) [0, 2] (by decide) (by decide) (fun w56 hS57 => ?_)
 refine ⟨⟨rowR.cell (hS57.rd 1).1 0 h54.1 h54.2 0 rfl, rowR.cell (hS57.rd 0).1 z_Tile h55.1 h55.2 1 rfl, trivial⟩, ?_⟩
 refine sg 20 [] [4, 5, 51, 53] [(4, (pt g9)), (5, (pt g18)), (51, (iv ((rdD p0 (rdD p1 (w64 ((p1.length : Int) - 1)) 0) z_Tile).E))), (53, (.pointer (some ⟨g18, 18, none⟩)))] (by kernel_rfl) ?_
 refine WL.store hS57 0 rfl [(18, (iv ((rdD p0 (rdD p1 (w64 ((p1.length : Int) - 1)) 0) z_Tile).E)))] #[(sv A14 (([] : List Int) ++ p1) c15), (iv x26.1.e0), (iv x26.1.e1), (iv x26.1.e2), (iv x26.1.e3), (iv x26.1.e4), (iv x26.1.e5), (iv x26.1.e6), (iv x26.1.e7), (iv x26.2.e0), (iv x26.2.e1), (iv x26.2.e2), (iv x26.2.e3), (iv x26.2.e4), (iv x26.2.e5), (iv x26.2.e6), (iv x26.2.e7), (iv ((rdD p0 (rdD p1 (0 : Int) 0) z_Tile).W)), (iv ((rdD p0 (rdD p1 (w64 ((p1.length : Int) - 1)) 0) z_Tile).E))] (fun fb => by kernel_rfl) (by kernel_rfl) (by kernel_rfl) [1, 2] (by decide) (by decide) (fun w58 hS59 => ?_)
 refine ⟨trivial, ?_⟩
 refine WL.done rfl (WX.next (WC.seq (WC.region ?_)))
 refine seg 1 [.v (sv A14 (([] : List Int) ++ p1) c15), .v (iv x26.1.e0), .v (iv x26.1.e1), .v (iv x26.1.e2), .v (iv x26.1.e3), .v (iv x26.1.e4), .v (iv x26.1.e5), .v (iv x26.1.e6), .v (iv x26.1.e7), .v (iv x26.2.e0), .v (iv x26.2.e1), .v (iv x26.2.e2), .v (iv x26.2.e3), .v (iv x26.2.e4), .v (iv x26.2.e5), .v (iv x26.2.e6), .v (iv x26.2.e7), .v (iv ((rdD p0 (rdD p1 (0 : Int) 0) z_Tile).W)), .v (iv ((rdD p0 (rdD p1 (w64 ((p1.length : Int) - 1)) 0) z_Tile).E))] [4, 54] [(4, (pt g9)), (54, (.agg #[(sv A14 (([] : List Int) ++ p1) c15), (iv x26.1.e0), (iv x26.1.e1), (iv x26.1.e2), (iv x26.1.e3), (iv x26.1.e4), (iv x26.1.e5), (iv x26.1.e6), (iv x26.1.e7), (iv x26.2.e0), (iv x26.2.e1), (iv x26.2.e2), (iv x26.2.e3), (iv x26.2.e4), (iv x26.2.e5), (iv x26.2.e6), (iv x26.2.e7), (iv ((rdD p0 (rdD p1 (0 : Int) 0) z_Tile).W)), (iv ((rdD p0 (rdD p1 (w64 ((p1.length : Int) - 1)) 0) z_Tile).E))]))] [.cell ⟨g18, 0, none⟩ (sv A14 (([] : List Int) ++ p1) c15), .cell ⟨g18, 1, none⟩ (iv x26.1.e0), .cell ⟨g18, 2, none⟩ (iv x26.1.e1), .cell ⟨g18, 3, none⟩ (iv x26.1.e2), .cell ⟨g18, 4, none⟩ (iv x26.1.e3), .cell ⟨g18, 5, none⟩ (iv x26.1.e4), .cell ⟨g18, 6, none⟩ (iv x26.1.e5), .cell ⟨g18, 7, none⟩ (iv x26.1.e6), .cell ⟨g18, 8, none⟩ (iv x26.1.e7), .cell ⟨g18, 9, none⟩ (iv x26.2.e0), .cell ⟨g18, 10, none⟩ (iv x26.2.e1), .cell ⟨g18, 11, none⟩ (iv x26.2.e2), .cell ⟨g18, 12, none⟩ (iv x26.2.e3), .cell ⟨g18, 13, none⟩ (iv x26.2.e4), .cell ⟨g18, 14, none⟩ (iv x26.2.e5), .cell ⟨g18, 15, none⟩ (iv x26.2.e6), .cell ⟨g18, 16, none⟩ (iv x26.2.e7), .cell ⟨g18, 17, none⟩ (iv ((rdD p0 (rdD p1 (0 : Int) 0) z_Tile).W)), .cell ⟨g18, 18, none⟩ (iv ((rdD p0 (rdD p1 (w64 ((p1.length : Int) - 1)) 0) z_Tile).E))] (fun fb => by kernel_rfl) rfl ⟨hS59.cell 0 rfl 0 rfl, hS59.cell 0 rfl 1 rfl, hS59.cell 0 rfl 2 rfl, hS59.cell 0 rfl 3 rfl, hS59.cell 0 rfl 4 rfl, hS59.cell 0 rfl 5 rfl, hS59.cell 0 rfl 6 rfl, hS59.cell 0 rfl 7 rfl, hS59.cell 0 rfl 8 rfl, hS59.cell 0 rfl 9 rfl, hS59.cell 0 rfl 10 rfl, hS59.cell 0 rfl 11 rfl, hS59.cell 0 rfl 12 rfl, hS59.cell 0 rfl 13 rfl, hS59.cell 0 rfl 14 rfl, hS59.cell 0 rfl 15 rfl, hS59.cell 0 rfl 16 rfl, hS59.cell 0 rfl 17 rfl, hS59.cell 0 rfl 18 rfl, trivial⟩ ?_
 refine WL.store hS59 1 rfl [(0, (sv A14 (([] : List Int) ++ p1) c15)), (1, (iv x26.1.e0)), (2, (iv x26.1.e1)), (3, (iv x26.1.e2)), (4, (iv x26.1.e3)), (5, (iv x26.1.e4)), (6, (iv x26.1.e5)), (7, (iv x26.1.e6)), (8, (iv x26.1.e7)), (9, (iv x26.2.e0)), (10, (iv x26.2.e1)), (11, (iv x26.2.e2)), (12, (iv x26.2.e3)), (13, (iv x26.2.e4)), (14, (iv x26.2.e5)), (15, (iv x26.2.e6)), (16, (iv x26.2.e7)), (17, (iv ((rdD p0 (rdD p1 (0 : Int) 0) z_Tile).W))), (18, (iv ((rdD p0 (rdD p1 (w64 ((p1.length : Int) - 1)) 0) z_Tile).E)))] #[(sv A14 (([] : List Int) ++ p1) c15), (iv x26.1.e0), (iv x26.1.e1), (iv x26.1.e2), (iv x26.1.e3), (iv x26.1.e4), (iv x26.1.e5), (iv x26.1.e6), (iv x26.1.e7), (iv x26.2.e0), (iv x26.2.e1), (iv x26.2.e2), (iv x26.2.e3), (iv x26.2.e4), (iv x26.2.e5), (iv x26.2.e6), (iv x26.2.e7), (iv ((rdD p0 (rdD p1 (0 : Int) 0) z_Tile).W)), (iv ((rdD p0 (rdD p1 (w64 ((p1.length : Int) - 1)) 0) z_Tile).E))] (fun fb => by kernel_rfl) (by kernel_rfl) (by kernel_rfl) [0, 2] (by decide) (by decide) (fun w60 hS61 => ?_)
 refine ⟨trivial, ?_⟩
 refine WL.done rfl (WX.next ?_)
 refine WC.ret ?_
 injection hf with hf
 subst hf
 exact WX.ret_ [.v (sv A14 (([] : List Int) ++ p1) c15), .v (iv x26.1.e0), .v (iv x26.1.e1), .v (iv x26.1.e2), .v (iv x26.1.e3), .v (iv x26.1.e4), .v (iv x26.1.e5), .v (iv x26.1.e6), .v (iv x26.1.e7), .v (iv x26.2.e0), .v (iv x26.2.e1), .v (iv x26.2.e2), .v (iv x26.2.e3), .v (iv x26.2.e4), .v (iv x26.2.e5), .v (iv x26.2.e6), .v (iv x26.2.e7), .v (iv ((rdD p0 (rdD p1 (0 : Int) 0) z_Tile).W)), .v (iv ((rdD p0 (rdD p1 (w64 ((p1.length : Int) - 1)) 0) z_Tile).E))] (.agg #[(sv A14 (([] : List Int) ++ p1) c15), (iv x26.1.e0), (iv x26.1.e1), (iv x26.1.e2), (iv x26.1.e3), (iv x26.1.e4), (iv x26.1.e5), (iv x26.1.e6), (iv x26.1.e7), (iv x26.2.e0), (iv x26.2.e1), (iv x26.2.e2), (iv x26.2.e3), (iv x26.2.e4), (iv x26.2.e5), (iv x26.2.e6), (iv x26.2.e7), (iv ((rdD p0 (rdD p1 (0 : Int) 0) z_Tile).W)), (iv ((rdD p0 (rdD p1 (w64 ((p1.length : Int) - 1)) 0) z_Tile).E))]) [.cell ⟨g9, 0, none⟩ (sv A14 (([] : List Int) ++ p1) c15), .cell ⟨g9, 1, none⟩ (iv x26.1.e0), .cell ⟨g9, 2, none⟩ (iv x26.1.e1), .cell ⟨g9, 3, none⟩ (iv x26.1.e2), .cell ⟨g9, 4, none⟩ (iv x26.1.e3), .cell ⟨g9, 5, none⟩ (iv x26.1.e4), .cell ⟨g9, 6, none⟩ (iv x26.1.e5), .cell ⟨g9, 7, none⟩ (iv x26.1.e6), .cell ⟨g9, 8, none⟩ (iv x26.1.e7), .cell ⟨g9, 9, none⟩ (iv x26.2.e0), .cell ⟨g9, 10, none⟩ (iv x26.2.e1), .cell ⟨g9, 11, none⟩ (iv x26.2.e2), .cell ⟨g9, 12, none⟩ (iv x26.2.e3), .cell ⟨g9, 13, none⟩ (iv x26.2.e4), .cell ⟨g9, 14, none⟩ (iv x26.2.e5), .cell ⟨g9, 15, none⟩ (iv x26.2.e6), .cell ⟨g9, 16, none⟩ (iv x26.2.e7), .cell ⟨g9, 17, none⟩ (iv ((rdD p0 (rdD p1 (0 : Int) 0) z_Tile).W)), .cell ⟨g9, 18, none⟩ (iv ((rdD p0 (rdD p1 (w64 ((p1.length : Int) - 1)) 0) z_Tile).E))] (fun fb => by kernel_rfl) ⟨hS61.cell 0 rfl 0 rfl, hS61.cell 0 rfl 1 rfl, hS61.cell 0 rfl 2 rfl, hS61.cell 0 rfl 3 rfl, hS61.cell 0 rfl 4 rfl, hS61.cell 0 rfl 5 rfl, hS61.cell 0 rfl 6 rfl, hS61.cell 0 rfl 7 rfl, hS61.cell 0 rfl 8 rfl, hS61.cell 0 rfl 9 rfl, hS61.cell 0 rfl 10 rfl, hS61.cell 0 rfl 11 rfl, hS61.cell 0 rfl 12 rfl, hS61.cell 0 rfl 13 rfl, hS61.cell 0 rfl 14 rfl, hS61.cell 0 rfl 15 rfl, hS61.cell 0 rfl 16 rfl, hS61.cell 0 rfl 17 rfl, hS61.cell 0 rfl 18 rfl, trivial⟩ ⟨_, rfl, A14, c15, rfl, (hS61.sub [2] (by decide)).noR⟩
theorem rows_All_1_calls : ∀ (k : Nat) (p0 : Int) (f0 : Int) (f1 : List Row) (f2 : List Tile) (f3 : List Int) (ga : Nat) (gb : Nat) (Aa : Option Addr) (ca : Nat) (Ha : Nat → HF) (gc : Nat) (Ab : Option Addr) (cb : Nat) (gd : Nat) (Ac : Option Addr) (cc : Nat) (ge : Nat) (r : (List Row) × (List Int)) (w : World) (hR0 : RO (fpL [blk gb (.cells #[(sv Aa f1 ca)] 93 (0, 0)), rowO 99 encN_Row Aa ca (tag Ha f1), poolO [nestO subN_Row Ha f1], blk gd (.cells #[(sv Ac f3 cc)] 37 (0, 0)), rowO 3 encInt Ac cc f3]) w (blk ga (.cells #[(iv f0)] 3 (0, 0)))) (hR1 : RO (fpL [blk gb (.cells #[(sv Aa f1 ca)] 93 (0, 0)), rowO 99 encN_Row Aa ca (tag Ha f1), poolO [nestO subN_Row Ha f1], blk gd (.cells #[(sv Ac f3 cc)] 37 (0, 0)), rowO 3 encInt Ac cc f3]) w (blk gc (.cells #[(sv Ab f2 cb)] 28 (0, 0)))) (hR2 : RO (fpL [blk gb (.cells #[(sv Aa f1 ca)] 93 (0, 0)), rowO 99 encN_Row Aa ca (tag Ha f1), poolO [nestO subN_Row Ha f1], blk gd (.cells #[(sv Ac f3 cc)] 37 (0, 0)), rowO 3 encInt Ac cc f3]) w (rowR enc_Tile Ab cb f2)) (hR3 : RO (fpL [blk gb (.cells #[(sv Aa f1 ca)] 93 (0, 0)), rowO 99 encN_Row Aa ca (tag Ha f1), poolO [nestO subN_Row Ha f1], blk gd (.cells #[(sv Ac f3 cc)] 37 (0, 0)), rowO 3 encInt Ac cc f3]) w (blk ge (.cells #[(.func (.func 95) #[] #[(pt ga), (pt gb), (pt gc), (pt gd), (pt ge)])] 139 (0, 0)))) (hI : IoOK w [blk gb (.cells #[(sv Aa f1 ca)] 93 (0, 0)), rowO 99 encN_Row Aa ca (tag Ha f1), poolO [nestO subN_Row Ha f1], blk gd (.cells #[(sv Ac f3 cc)] 37 (0, 0)), rowO 3 encInt Ac cc f3]) (hf : rows_All_1 k p0 f0 f1 f2 f3 = some r),
  CallsR Try.prog 95 #[(iv p0), (pt ga), (pt gb), (pt gc), (pt gd), (pt ge)] w (fun v w' => ∃ (A1_ : Option Addr), ∃ (c1_ : Nat), ∃ (h1_ : Nat → HF), ∃ (A2_ : Option Addr), ∃ (c2_ : Nat), v = (.tuple #[]) ∧ St (fpL [blk gb (.cells #[(sv Aa f1 ca)] 93 (0, 0)), rowO 99 encN_Row Aa ca (tag Ha f1), poolO [nestO subN_Row Ha f1], blk gd (.cells #[(sv Ac f3 cc)] 37 (0, 0)), rowO 3 encInt Ac cc f3]) w w' [] [blk gb (.cells #[(sv A1_ r.1 c1_)] 93 (0, 0)), rowO 99 encN_Row A1_ c1_ (tag h1_ r.1), poolO [nestO subN_Row h1_ r.1], blk gd (.cells #[(sv A2_ r.2 c2_)] 37 (0, 0)), rowO 3 encInt A2_ c2_ r.2]) := by
 intro k
 induction k with
 | zero => intro p0 f0 f1 f2 f3 ga gb Aa ca Ha gc Ab cb gd Ac cc ge r w hR0 hR1 hR2 hR3 hI hf; rw [rows_All_1] at hf; cases hf
 | succ k ih_ =>
 intro p0 f0 f1 f2 f3 ga gb Aa ca Ha gc Ab cb gd Ac cc ge r w hR0 hR1 hR2 hR3 hI hf
 have hS : St (fpL [blk gb (.cells #[(sv Aa f1 ca)] 93 (0, 0)), rowO 99 encN_Row Aa ca (tag Ha f1), poolO [nestO subN_Row Ha f1], blk gd (.cells #[(sv Ac f3 cc)] 37 (0, 0)), rowO 3 encInt Ac cc f3]) w w [blk ga (.cells #[(iv f0)] 3 (0, 0)), blk gc (.cells #[(sv Ab f2 cb)] 28 (0, 0)), rowR enc_Tile Ab cb f2, blk ge (.cells #[(.func (.func 95) #[] #[(pt ga), (pt gb), (pt gc), (pt gd), (pt ge)])] 139 (0, 0))] [blk gb (.cells #[(sv Aa f1 ca)] 93 (0, 0)), rowO 99 encN_Row Aa ca (tag Ha f1), poolO [nestO subN_Row Ha f1], blk gd (.cells #[(sv Ac f3 cc)] 37 (0, 0)), rowO 3 encInt Ac cc f3] := St.initIO (ro_cons hR0 (ro_cons hR1 (ro_cons hR2 (ro_cons hR3 (ro_nil _ _))))) hI
 rw [rows_All_1] at hf
 generalize rows_All_1 k = rc_ at hf ih_
 refine enter 50 Try.func95 rfl Try.ntmps95 rfl ?_
 refine WC.seq (WC.seq (WC.region ?_))
 refine seg 3 [.v (iv f0)] [0, 2, 3, 4, 5, 11] [(0, (iv p0)), (2, (pt gb)), (3, (pt gc)), (4, (pt gd)), (5, (pt ge)), (11, (bv (p0 == f0)))] [.cell ⟨ga, 0, none⟩ (iv f0)] (fun fb => by kernel_rfl) rfl ⟨blk_cell (hS.rd 0).1 0 rfl, trivial⟩ ?_
 refine WL.done rfl (WX.next ?_)
 rcases br_some hf with ⟨h8, hf⟩ | ⟨h8, hf⟩
 ·refine WC.condT2 (fun fb => by kernel_rfl) h8 ?_
  refine WC.seq ?_
  refine WC.regionD ([(0, ⟨gb, 0, none⟩, (sv Aa f1 ca)), (1, ⟨gc, 0, none⟩, (sv Ab f2 cb)), (2, ⟨gd, 0, none⟩, (sv Ac f3 cc))], [0, 1, 2], [[], [], [], [1, 2], [1, 2, 3], [0, 1, 2, 3, 4], [0, 1, 2, 3, 4, 5]]) [[0, 1, 2, 3, 4, 5, 6]] (by kernel_rfl) (by kernel_rfl) (NoPanic.seq (NoPanic.seq (NoPanic.body))) ?_
  have hS10 := hS.drew
  revert hS10
  generalize World.drew w = w9
  intro hS10
  refine ⟨⟨hS10.cell 0 rfl 0 rfl, blk_cell (hS10.rd 1).1 0 rfl, hS10.cell 3 rfl 0 rfl, trivial⟩, forallC ?_ (forallN)⟩
  refine segF 3 [.v (sv Aa f1 ca), .v (sv Ab f2 cb), .v (sv Ac f3 cc)] [2, 4, 12, 13, 14] [(2, (pt gb)), (4, (pt gd)), (12, (sv Aa f1 ca)), (13, (sv Ab f2 cb)), (14, (sv Ac f3 cc))] [] [0, 1, 2] [(0, ⟨gb, 0, none⟩, (sv Aa f1 ca)), (1, ⟨gc, 0, none⟩, (sv Ab f2 cb)), (2, ⟨gd, 0, none⟩, (sv Ac f3 cc))] (fun fb => by kernel_rfl) rfl trivial rfl ?_
  obtain ⟨t11, ht12, hf⟩ := bind_some hf
  refine WL.call (some 15) 96 #[(sv Ab f2 cb), (sv Ac f3 cc)] (fun fb => by kernel_rfl) (rows_rowOf_calls _ f2 f3 Ab cb Ac cc t11 _ (hS10.rd 2) (hS10.ow 4).ofO ht12) (fun v w13 hR14 => ?_)
  obtain ⟨A16, c17, rfl, hk_⟩ := hR14
  have hS15 : St (fpL [blk gb (.cells #[(.slice Aa f1.length ca)] 93 (0, 0)), rowO 99 encN_Row Aa ca (tag Ha f1), poolO [nestO subN_Row Ha f1], blk gd (.cells #[(.slice Ac f3.length cc)] 37 (0, 0)), rowO 3 encInt Ac cc f3]) w w13 [blk ga (.cells #[(iv f0)] 3 (0, 0)), blk gc (.cells #[(.slice Ab f2.length cb)] 28 (0, 0)), rowR enc_Tile Ab cb f2, blk ge (.cells #[(.func (.func 95) #[] #[(pt ga), (pt gb), (pt gc), (pt gd), (pt ge)])] 139 (0, 0))] [rowO 3 encInt A16 c17 t11.Cells, blk gb (.cells #[(.slice Aa f1.length ca)] 93 (0, 0)), rowO 99 encN_Row Aa ca (tag Ha f1), poolO [nestO subN_Row Ha f1], blk gd (.cells #[(.slice Ac f3.length cc)] 37 (0, 0)), rowO 3 encInt Ac cc f3] := hS10.call hk_ [] [0, 1, 2, 3, 4] (fun g hg => hg.elim) (by simp) (by decide)
  refine ⟨⟨hS15.cell 1 rfl 0 rfl, trivial⟩, ?_⟩
  refine WL.new hS15 16 [] (fun g => (.slice (some ⟨g, 0, none⟩) 1 1)) (.cells #[(sv A16 t11.Cells c17), (iv t11.South.e0), (iv t11.South.e1), (iv t11.South.e2), (iv t11.South.e3), (iv t11.South.e4), (iv t11.South.e5), (iv t11.South.e6), (iv t11.South.e7), (iv t11.North.e0), (iv t11.North.e1), (iv t11.North.e2), (iv t11.North.e3), (iv t11.North.e4), (iv t11.North.e5), (iv t11.North.e6), (iv t11.North.e7), (iv t11.West), (iv t11.East)] 99 (0, 0)) [] (fun fb g => by kernel_rfl) trivial (fun g18 w19 hS20 => ?_)
  refine ⟨⟨hS20.cell 2 rfl 0 rfl, trivial⟩, ?_⟩
  have hS21 := hS.go w19 [rowO 99 encN_Row (some ⟨g18, 0, none⟩) 1 [((hd1 A16 c17), t11)], rowO 3 encInt A16 c17 t11.Cells, blk gb (.cells #[(sv Aa f1 ca)] 93 (0, 0)), rowO 99 encN_Row Aa ca (tag Ha f1), poolO [nestO subN_Row Ha f1], blk gd (.cells #[(sv Ac f3 cc)] 37 (0, 0)), rowO 3 encInt Ac cc f3] (hS20.map1 0 _ (fun h => rowO.ofBlk h rfl (Nat.le_of_ble_eq_true (by kernel_rfl))) (fun _ h => by obtain ⟨_, h1, h2⟩ := h; injection h1 with h1; subst h1; exact h2) [1, 2, 3, 4, 5, 6] (by decide) (by decide))
  obtain ⟨h22, hf⟩ := as_some hf
  refine WL.appendN hS21 3 (d := 17) (tS := 93) (z := (.agg #[(.slice none 0 0), (iv 0), (iv 0), (iv 0), (iv 0), (iv 0), (iv 0), (iv 0), (iv 0), (iv 0), (iv 0), (iv 0), (iv 0), (iv 0), (iv 0), (iv 0), (iv 0), (iv 0), (iv 0)])) (bytes := 168) (c2 := 1) (hx := (hd1 A16 c17)) (x := t11) rfl (fun fb => by kernel_rfl) (rowO.rd (hS21.own 0).1) (by kernel_rfl) (by kernel_rfl) rfl (by decide) h22 (by decide) [0, 1, 2, 4, 5, 6] (by decide) (by decide) (fun A23 c24 w25 hS26 => ?_)
  have hS27 := hS15.go w25 [poolO [nestO subN_Row (updH Ha f1.length (hd1 A16 c17)) (f1 ++ [t11])], rowO 99 encN_Row A23 c24 (tag (updH Ha f1.length (hd1 A16 c17)) (f1 ++ [t11])), rowO 99 encN_Row (some ⟨g18, 0, none⟩) 1 [((hd1 A16 c17), t11)], blk gb (.cells #[(.slice Aa f1.length ca)] 93 (0, 0)), blk gd (.cells #[(.slice Ac f3.length cc)] 37 (0, 0)), rowO 3 encInt Ac cc f3] (hS26.poolPush 4 rfl 0 (by simp) rfl (hd1 A16 c17) t11 (hS26.ow 2).ofO [2] (fun g hg => ⟨2, by simp, rowO.fpR (hS26.own 2).1 g hg⟩) _ rfl [0, 1, 3, 5, 6] (by decide) (by decide))
  refine ⟨trivial, ?_⟩
  refine WL.store hS27 3 rfl [(0, (sv A23 (f1 ++ [t11]) c24))] #[(sv A23 (f1 ++ [t11]) c24)] (fun fb => by kernel_rfl) (by kernel_rfl) rfl [0, 1, 2, 4, 5] (by decide) (by decide) (fun w28 hS29 => ?_)
  refine ⟨trivial, ?_⟩
  refine WL.done rfl (WX.next ?_)
  refine WC.ret ?_
  injection hf with hf
  subst hf
  exact WX.thenR (WX.ret_ [] (.tuple #[]) [] (fun fb => by kernel_rfl) trivial ⟨_, rfl, A23, c24, (updH Ha f1.length (hd1 A16 c17)), Ac, cc, rfl, (hS29.sub [0, 2, 1, 4, 5] (by decide)).noR⟩)
 refine WC.condF2 (fun fb => by kernel_rfl) h8 ?_
 refine WC.skip (WX.next (WC.seq (WC.region ?_)))
 refine seg 3 [.v (sv Ab f2 cb)] [0, 2, 3, 4, 5, 18, 19, 20] [(0, (iv p0)), (2, (pt gb)), (3, (pt gc)), (4, (pt gd)), (5, (pt ge)), (18, (sv Ab f2 cb)), (19, (iv (f2.length : Int))), (20, (iv 0))] [.cell ⟨gc, 0, none⟩ (sv Ab f2 cb)] (fun fb => by kernel_rfl) rfl ⟨blk_cell (hS.rd 1).1 0 rfl, trivial⟩ ?_
 refine WL.done rfl (WX.next ?_)
 obtain ⟨x43, hx44, hf⟩ := bind_some hf
 refine WC.cutN (T := ((List Row) × (List Int)) × (Option Addr) × Nat × (Nat → HF) × (Option Addr) × Nat) (fun t => [(2, (pt gb)), (4, (pt gd))]) (fun t w1 => St (fpL [blk gb (.cells #[(sv Aa f1 ca)] 93 (0, 0)), rowO 99 encN_Row Aa ca (tag Ha f1), poolO [nestO subN_Row Ha f1], blk gd (.cells #[(sv Ac f3 cc)] 37 (0, 0)), rowO 3 encInt Ac cc f3]) w w1 [blk ga (.cells #[(iv f0)] 3 (0, 0)), blk gc (.cells #[(sv Ab f2 cb)] 28 (0, 0)), rowR enc_Tile Ab cb f2, blk ge (.cells #[(.func (.func 95) #[] #[(pt ga), (pt gb), (pt gc), (pt gd), (pt ge)])] 139 (0, 0))] [blk gb (.cells #[(sv t.2.1 t.1.1 t.2.2.1)] 93 (0, 0)), rowO 99 encN_Row t.2.1 t.2.2.1 (tag t.2.2.2.1 t.1.1), poolO [nestO subN_Row t.2.2.2.1 t.1.1], blk gd (.cells #[(sv t.2.2.2.2.1 t.1.2 t.2.2.2.2.2)] 37 (0, 0)), rowO 3 encInt t.2.2.2.2.1 t.2.2.2.2.2 t.1.2] ∧ x43 = t.1) (fun Kx43 => ?_) ?_
 ·
  refine WC.block ?_
  refine WC.loop (T := ((List Row) × (List Int) × Int) × (Option Addr) × Nat × (Nat → HF) × (Option Addr) × Nat) (fun t => [(0, (iv p0)), (2, (pt gb)), (3, (pt gc)), (4, (pt gd)), (5, (pt ge)), (18, (sv Ab f2 cb)), (19, (iv (f2.length : Int))), (20, (iv t.1.2.2))]) (fun n t w1 => St (fpL [blk gb (.cells #[(sv Aa f1 ca)] 93 (0, 0)), rowO 99 encN_Row Aa ca (tag Ha f1), poolO [nestO subN_Row Ha f1], blk gd (.cells #[(sv Ac f3 cc)] 37 (0, 0)), rowO 3 encInt Ac cc f3]) w w1 [blk ga (.cells #[(iv f0)] 3 (0, 0)), blk gc (.cells #[(sv Ab f2 cb)] 28 (0, 0)), rowR enc_Tile Ab cb f2, blk ge (.cells #[(.func (.func 95) #[] #[(pt ga), (pt gb), (pt gc), (pt gd), (pt ge)])] 139 (0, 0))] [blk gb (.cells #[(sv t.2.1 t.1.1 t.2.2.1)] 93 (0, 0)), rowO 99 encN_Row t.2.1 t.2.2.1 (tag t.2.2.2.1 t.1.1), poolO [nestO subN_Row t.2.2.2.1 t.1.1], blk gd (.cells #[(sv t.2.2.2.2.1 t.1.2.1 t.2.2.2.2.2)] 37 (0, 0)), rowO 3 encInt t.2.2.2.2.1 t.2.2.2.2.2 t.1.2.1] ∧ rows_All_1.l0 n t.1.1 t.1.2.1 t.1.2.2 p0 f0 f2 rc_ = some x43) k ((f1, f3, 0), Aa, ca, Ha, Ac, cc) [0, 2, 3, 4, 5, 18, 19, 20] rfl ⟨(hS.subR [0, 1, 2, 3]).sub [0, 1, 2, 3, 4] (by decide), hx44⟩ ?_
  rintro k45 ⟨⟨l32, l36, x37⟩, A30, c31, H33, A34, c35⟩ w46 ⟨hS47, hl48⟩
  cases k45 with
  | zero => rw [rows_All_1.l0] at hl48; cases hl48
  | succ k45 =>
   rw [rows_All_1.l0] at hl48
   refine WC.seq (WC.region ?_)
   refine sg 1 [] [0, 2, 3, 4, 5, 18, 19, 20, 21] [(0, (iv p0)), (2, (pt gb)), (3, (pt gc)), (4, (pt gd)), (5, (pt ge)), (18, (sv Ab f2 cb)), (19, (iv (f2.length : Int))), (20, (iv x37)), (21, (bv (decide (x37 < (f2.length : Int)))))] (by kernel_rfl) ?_
   refine WL.done rfl (WX.next (WC.seq ?_))
   rcases br_some hl48 with ⟨h49, hl48⟩ | ⟨h49, hl48⟩
   ·refine WC.condT2 (fun fb => by kernel_rfl) h49 ?_
    refine WC.skip (WX.next (WC.seq (WC.block (WC.seq (WC.region ?_)))))
    refine sg 1 [] [0, 2, 3, 4, 5, 18, 19, 20, 22] [(0, (iv p0)), (2, (pt gb)), (3, (pt gc)), (4, (pt gd)), (5, (pt ge)), (18, (sv Ab f2 cb)), (19, (iv (f2.length : Int))), (20, (iv x37)), (22, (iv x37))] (by kernel_rfl) ?_
    obtain ⟨h50, hl48⟩ := as_some hl48
    refine seg 3 [.v (iv ((rdD f2 x37 z_Tile).N)), .v (iv ((rdD f2 x37 z_Tile).E)), .v (iv ((rdD f2 x37 z_Tile).S)), .v (iv ((rdD f2 x37 z_Tile).W))] [0, 2, 3, 4, 5, 18, 19, 20, 22, 24] [(0, (iv p0)), (2, (pt gb)), (3, (pt gc)), (4, (pt gd)), (5, (pt ge)), (18, (sv Ab f2 cb)), (19, (iv (f2.length : Int))), (20, (iv x37)), (22, (iv x37)), (24, (.agg #[(iv ((rdD f2 x37 z_Tile).N)), (iv ((rdD f2 x37 z_Tile).E)), (iv ((rdD f2 x37 z_Tile).S)), (iv ((rdD f2 x37 z_Tile).W))]))] [.idx Ab x37 f2.length, .cell ((adr Ab).add ((x37).toNat * 4)) (iv ((rdD f2 x37 z_Tile).N)), .cell (((adr Ab).add ((x37).toNat * 4)).add 1) (iv ((rdD f2 x37 z_Tile).E)), .cell (((adr Ab).add ((x37).toNat * 4)).add 2) (iv ((rdD f2 x37 z_Tile).S)), .cell (((adr Ab).add ((x37).toNat * 4)).add 3) (iv ((rdD f2 x37 z_Tile).W))] (fun fb => by kernel_rfl) rfl ⟨rowR.adr (hS47.rd 2).1 h50.1 h50.2, rowR.cell (hS47.rd 2).1 z_Tile h50.1 h50.2 0 rfl, rowR.cell (hS47.rd 2).1 z_Tile h50.1 h50.2 1 rfl, rowR.cell (hS47.rd 2).1 z_Tile h50.1 h50.2 2 rfl, rowR.cell (hS47.rd 2).1 z_Tile h50.1 h50.2 3 rfl, trivial⟩ ?_
    refine WL.new hS47 8 [] (fun g => (pt g)) (.cells #[(iv 0), (iv 0), (iv 0), (iv 0)] 48 (0, 0)) [] (fun fb g => by kernel_rfl) trivial (fun g51 w52 hS53 => ?_)
    refine ⟨trivial, ?_⟩
    refine sg 5 [] [0, 2, 3, 4, 5, 7, 8, 18, 19, 20, 24] [(0, (iv p0)), (2, (pt gb)), (3, (pt gc)), (4, (pt gd)), (5, (pt ge)), (7, (iv x37)), (8, (pt g51)), (18, (sv Ab f2 cb)), (19, (iv (f2.length : Int))), (20, (iv x37)), (24, (.agg #[(iv ((rdD f2 x37 z_Tile).N)), (iv ((rdD f2 x37 z_Tile).E)), (iv ((rdD f2 x37 z_Tile).S)), (iv ((rdD f2 x37 z_Tile).W))]))] (by kernel_rfl) ?_
    refine WL.store hS53 0 rfl [(0, (iv ((rdD f2 x37 z_Tile).N))), (1, (iv ((rdD f2 x37 z_Tile).E))), (2, (iv ((rdD f2 x37 z_Tile).S))), (3, (iv ((rdD f2 x37 z_Tile).W)))] #[(iv ((rdD f2 x37 z_Tile).N)), (iv ((rdD f2 x37 z_Tile).E)), (iv ((rdD f2 x37 z_Tile).S)), (iv ((rdD f2 x37 z_Tile).W))] (fun fb => by kernel_rfl) (by kernel_rfl) rfl [1, 2, 3, 4, 5] (by decide) (by decide) (fun w54 hS55 => ?_)
    refine ⟨trivial, ?_⟩
    refine WL.done rfl (WX.next (WC.seq ?_))
    obtain ⟨x56, hx57, hl48⟩ := bind_some hl48
    refine WC.cutN (T := Bool) (fun t => [(0, (iv p0)), (2, (pt gb)), (3, (pt gc)), (4, (pt gd)), (5, (pt ge)), (7, (iv x37)), (18, (sv Ab f2 cb)), (19, (iv (f2.length : Int))), (20, (iv x37)), (40, (bv t))]) (fun t w1 => St (fpL [blk gb (.cells #[(sv Aa f1 ca)] 93 (0, 0)), rowO 99 encN_Row Aa ca (tag Ha f1), poolO [nestO subN_Row Ha f1], blk gd (.cells #[(sv Ac f3 cc)] 37 (0, 0)), rowO 3 encInt Ac cc f3]) w w1 [blk ga (.cells #[(iv f0)] 3 (0, 0)), blk gc (.cells #[(sv Ab f2 cb)] 28 (0, 0)), rowR enc_Tile Ab cb f2, blk ge (.cells #[(.func (.func 95) #[] #[(pt ga), (pt gb), (pt gc), (pt gd), (pt ge)])] 139 (0, 0))] [blk gb (.cells #[(sv A30 l32 c31)] 93 (0, 0)), rowO 99 encN_Row A30 c31 (tag H33 l32), poolO [nestO subN_Row H33 l32], blk gd (.cells #[(sv A34 l36 c35)] 37 (0, 0)), rowO 3 encInt A34 c35 l36] ∧ x56 = t) (fun Kx56 => ?_) ?_
    ·
     rcases br_some hx57 with ⟨h58, hx57⟩ | ⟨h58, hx57⟩
     ·
      refine WC.regionD ([], [0, 1, 2, 3, 4, 5, 6, 7, 8, 9, 10, 11, 12, 13, 14, 15], [[], [0], [0, 1], [0, 1, 2], [0, 1, 2], [0, 1, 2], [0, 1, 2, 5], [0, 1, 2, 4, 5, 6], [0, 1, 2, 4, 5, 6, 7], [0, 1, 2, 3, 4, 5, 6, 7, 8], [0, 1, 2, 3, 4, 5, 6, 7, 8, 9], [0, 1, 2, 3, 4, 5, 6, 7, 8, 9, 10], [0, 1, 2], [0, 1, 2, 12], [0, 1, 2, 3, 4, 5, 6, 7, 8, 9, 10, 11, 12, 13], [0, 1, 2, 3, 4, 5, 6, 7, 8, 9, 10, 11, 12, 13, 14]]) [[0, 1, 2, 3, 4, 5, 6, 7, 8, 9, 10, 11, 12, 13, 14, 15]] (by kernel_rfl) (by kernel_rfl) (NoPanic.seq (NoPanic.block (NoPanic.seq (NoPanic.seq (NoPanic.block (NoPanic.body)))))) ?_
      have hS60 := hS55.drew
      revert hS60
      generalize World.drew w54 = w59
      intro hS60
      refine ⟨trivial, forallC ?_ (forallN)⟩
      refine sg 3 [] [0, 2, 3, 4, 5, 7, 8, 18, 19, 20, 27] [(0, (iv p0)), (2, (pt gb)), (3, (pt gc)), (4, (pt gd)), (5, (pt ge)), (7, (iv x37)), (8, (pt g51)), (18, (sv Ab f2 cb)), (19, (iv (f2.length : Int))), (20, (iv x37)), (27, (bv (p0 == 0)))] (by kernel_rfl) ?_
      refine WL.setB 27 h58 rfl ?_
      refine sg 16 [] [0, 2, 3, 4, 5, 7, 18, 19, 20, 40] [(0, (iv p0)), (2, (pt gb)), (3, (pt gc)), (4, (pt gd)), (5, (pt ge)), (7, (iv x37)), (18, (sv Ab f2 cb)), (19, (iv (f2.length : Int))), (20, (iv x37)), (40, (bv true))] (by kernel_rfl) ?_
      refine WL.done rfl ?_
      injection hx57 with hx57
      exact WX.to Kx56 true [0, 2, 3, 4, 5, 7, 18, 19, 20, 40] rfl ⟨(hS60.subR [0, 1, 2, 3]).sub [1, 2, 3, 4, 5] (by decide), hx57.symm⟩
     obtain ⟨h63, hx57⟩ := as_some hx57
     obtain ⟨h65, hx57⟩ := as_some hx57
     refine WC.regionD ([(3, ⟨gc, 0, none⟩, (sv Ab f2 cb)), (4, ⟨gd, 0, none⟩, (sv A34 l36 c35)), (8, ((adr A34).add ((w64 (p0 - 1)).toNat * 1)), (iv (rdD l36 (w64 (p0 - 1)) 0))), (11, (((adr Ab).add (((rdD l36 (w64 (p0 - 1)) 0)).toNat * 4)).add 1), (iv ((rdD f2 (rdD l36 (w64 (p0 - 1)) 0) z_Tile).E))), (13, ⟨g51, 3, none⟩, (iv ((rdD f2 x37 z_Tile).W)))], [0, 1, 2, 3, 4, 5, 6, 7, 8, 9, 10, 11, 12, 13, 14, 15], [[], [0], [0, 1], [0, 1, 2], [0, 1, 2], [0, 1, 2], [0, 1, 2, 5], [0, 1, 2, 4, 5, 6], [0, 1, 2, 4, 5, 6, 7], [0, 1, 2, 3, 4, 5, 6, 7, 8], [0, 1, 2, 3, 4, 5, 6, 7, 8, 9], [0, 1, 2, 3, 4, 5, 6, 7, 8, 9, 10], [0, 1, 2], [0, 1, 2, 12], [0, 1, 2, 3, 4, 5, 6, 7, 8, 9, 10, 11, 12, 13], [0, 1, 2, 3, 4, 5, 6, 7, 8, 9, 10, 11, 12, 13, 14]]) [[0, 1, 2, 3, 4, 5, 6, 7, 8, 9, 10, 11, 12, 13, 14, 15]] (by kernel_rfl) (by kernel_rfl) (NoPanic.seq (NoPanic.block (NoPanic.seq (NoPanic.seq (NoPanic.block (NoPanic.body)))))) ?_
     have hS62 := hS55.drew
     revert hS62
     generalize World.drew w54 = w61
     intro hS62
     refine ⟨⟨blk_cell (hS62.rd 1).1 0 rfl, hS62.cell 4 rfl 0 rfl, rowR.cell (rowO.rd (hS62.own 5).1) 0 h63.1 h63.2 0 rfl, rowR.cell (hS62.rd 2).1 z_Tile h65.1 h65.2 1 rfl, hS62.cell 0 rfl 3 rfl, trivial⟩, forallC ?_ (forallN)⟩
     refine sg 3 [] [0, 2, 3, 4, 5, 7, 8, 18, 19, 20, 27] [(0, (iv p0)), (2, (pt gb)), (3, (pt gc)), (4, (pt gd)), (5, (pt ge)), (7, (iv x37)), (8, (pt g51)), (18, (sv Ab f2 cb)), (19, (iv (f2.length : Int))), (20, (iv x37)), (27, (bv (p0 == 0)))] (by kernel_rfl) ?_
     refine WL.setB 27 h58 rfl ?_
     refine segF 16 [.v (sv Ab f2 cb), .v (sv A34 l36 c35), .v (iv (rdD l36 (w64 (p0 - 1)) 0)), .v (iv ((rdD f2 (rdD l36 (w64 (p0 - 1)) 0) z_Tile).E)), .v (iv ((rdD f2 x37 z_Tile).W))] [0, 2, 3, 4, 5, 7, 18, 19, 20, 40] [(0, (iv p0)), (2, (pt gb)), (3, (pt gc)), (4, (pt gd)), (5, (pt ge)), (7, (iv x37)), (18, (sv Ab f2 cb)), (19, (iv (f2.length : Int))), (20, (iv x37)), (40, (bv (((rdD f2 (rdD l36 (w64 (p0 - 1)) 0) z_Tile).E) == ((rdD f2 x37 z_Tile).W))))] [.idx A34 (w64 (p0 - 1)) l36.length, .idx Ab (rdD l36 (w64 (p0 - 1)) 0) f2.length] [0, 1, 2, 3, 4] [(3, ⟨gc, 0, none⟩, (sv Ab f2 cb)), (4, ⟨gd, 0, none⟩, (sv A34 l36 c35)), (8, ((adr A34).add ((w64 (p0 - 1)).toNat * 1)), (iv (rdD l36 (w64 (p0 - 1)) 0))), (11, (((adr Ab).add (((rdD l36 (w64 (p0 - 1)) 0)).toNat * 4)).add 1), (iv ((rdD f2 (rdD l36 (w64 (p0 - 1)) 0) z_Tile).E))), (13, ⟨g51, 3, none⟩, (iv ((rdD f2 x37 z_Tile).W)))] (fun fb => by kernel_rfl) rfl ⟨rowR.adr (rowO.rd (hS62.own 5).1) h63.1 h63.2, rowR.adr (hS62.rd 2).1 h65.1 h65.2, trivial⟩ rfl ?_
     refine WL.done rfl ?_
     injection hx57 with hx57
     exact WX.to Kx56 (((rdD f2 (rdD l36 (w64 (p0 - 1)) 0) z_Tile).E) == ((rdD f2 x37 z_Tile).W)) [0, 2, 3, 4, 5, 7, 18, 19, 20, 40] rfl ⟨(hS62.subR [0, 1, 2, 3]).sub [1, 2, 3, 4, 5] (by decide), hx57.symm⟩
    rintro y69 w66 ⟨hS67, hq68⟩
    subst hq68
    refine WX.next ?_
    obtain ⟨x75, hx76, hl48⟩ := bind_some hl48
    refine WC.cutN (T := ((List Row) × (List Int)) × (Option Addr) × Nat × (Nat → HF) × (Option Addr) × Nat) (fun t => [(0, (iv p0)), (2, (pt gb)), (3, (pt gc)), (4, (pt gd)), (5, (pt ge)), (18, (sv Ab f2 cb)), (19, (iv (f2.length : Int))), (20, (iv x37))]) (fun t w1 => St (fpL [blk gb (.cells #[(sv Aa f1 ca)] 93 (0, 0)), rowO 99 encN_Row Aa ca (tag Ha f1), poolO [nestO subN_Row Ha f1], blk gd (.cells #[(sv Ac f3 cc)] 37 (0, 0)), rowO 3 encInt Ac cc f3]) w w1 [blk ga (.cells #[(iv f0)] 3 (0, 0)), blk gc (.cells #[(sv Ab f2 cb)] 28 (0, 0)), rowR enc_Tile Ab cb f2, blk ge (.cells #[(.func (.func 95) #[] #[(pt ga), (pt gb), (pt gc), (pt gd), (pt ge)])] 139 (0, 0))] [blk gb (.cells #[(sv t.2.1 t.1.1 t.2.2.1)] 93 (0, 0)), rowO 99 encN_Row t.2.1 t.2.2.1 (tag t.2.2.2.1 t.1.1), poolO [nestO subN_Row t.2.2.2.1 t.1.1], blk gd (.cells #[(sv t.2.2.2.2.1 t.1.2 t.2.2.2.2.2)] 37 (0, 0)), rowO 3 encInt t.2.2.2.2.1 t.2.2.2.2.2 t.1.2] ∧ x75 = t.1) (fun Kx75 => ?_) ?_
    ·
     rcases br_some hx76 with ⟨h77, hx76⟩ | ⟨h77, hx76⟩
     ·refine WC.condT2 (fun fb => by kernel_rfl) h77 ?_
      refine WC.seq (WC.region ?_)
      refine seg 3 [.v (sv A34 l36 c35)] [0, 2, 3, 4, 5, 18, 19, 20, 41, 42, 43] [(0, (iv p0)), (2, (pt gb)), (3, (pt gc)), (4, (pt gd)), (5, (pt ge)), (18, (sv Ab f2 cb)), (19, (iv (f2.length : Int))), (20, (iv x37)), (41, (sv A34 l36 c35)), (42, (iv p0)), (43, (iv x37))] [.cell ⟨gd, 0, none⟩ (sv A34 l36 c35)] (fun fb => by kernel_rfl) rfl ⟨hS67.cell 3 rfl 0 rfl, trivial⟩ ?_
      obtain ⟨h78, hx76⟩ := as_some hx76
      refine seg 4 [] [0, 2, 3, 4, 5, 18, 19, 20, 43, 44] [(0, (iv p0)), (2, (pt gb)), (3, (pt gc)), (4, (pt gd)), (5, (pt ge)), (18, (sv Ab f2 cb)), (19, (iv (f2.length : Int))), (20, (iv x37)), (43, (iv x37)), (44, (.pointer (some ((adr A34).add ((p0).toNat * 1)))))] [.idx A34 p0 l36.length] (fun fb => by kernel_rfl) rfl ⟨rowR.adr (rowO.rd (hS67.own 4).1) h78.1 h78.2, trivial⟩ ?_
      refine WL.storeRow hS67 4 rfl (p0) (x37) (0) [(0, (iv x37))] (fun fb => by kernel_rfl) h78.1 h78.2 (by kernel_rfl) rfl [0, 1, 2, 3] (by decide) (by decide) (fun w79 hS80 => ?_)
      refine ⟨trivial, ?_⟩
      have hS81 : St (fpL [blk gb (.cells #[(.slice Aa f1.length ca)] 93 (0, 0)), rowO 99 encN_Row Aa ca (tag Ha f1), poolO [nestO subN_Row Ha f1], blk gd (.cells #[(.slice Ac f3.length cc)] 37 (0, 0)), rowO 3 encInt Ac cc f3]) w w79 [blk ga (.cells #[(iv f0)] 3 (0, 0)), blk gc (.cells #[(.slice Ab f2.length cb)] 28 (0, 0)), rowR enc_Tile Ab cb f2, blk ge (.cells #[(.func (.func 95) #[] #[(pt ga), (pt gb), (pt gc), (pt gd), (pt ge)])] 139 (0, 0))] [rowO 3 encInt A34 c35 (l36.set (p0).toNat x37), blk gb (.cells #[(.slice A30 l32.length c31)] 93 (0, 0)), rowO 99 encN_Row A30 c31 (tag H33 l32), poolO [nestO subN_Row H33 l32], blk gd (.cells #[(.slice A34 (l36.set (p0).toNat x37).length c35)] 37 (0, 0))] := by simpa only [List.length_set] using (show St (fpL [blk gb (.cells #[(.slice Aa f1.length ca)] 93 (0, 0)), rowO 99 encN_Row Aa ca (tag Ha f1), poolO [nestO subN_Row Ha f1], blk gd (.cells #[(.slice Ac f3.length cc)] 37 (0, 0)), rowO 3 encInt Ac cc f3]) w w79 [blk ga (.cells #[(iv f0)] 3 (0, 0)), blk gc (.cells #[(.slice Ab f2.length cb)] 28 (0, 0)), rowR enc_Tile Ab cb f2, blk ge (.cells #[(.func (.func 95) #[] #[(pt ga), (pt gb), (pt gc), (pt gd), (pt ge)])] 139 (0, 0))] [rowO 3 encInt A34 c35 (l36.set (p0).toNat x37), blk gb (.cells #[(.slice A30 l32.length c31)] 93 (0, 0)), rowO 99 encN_Row A30 c31 (tag H33 l32), poolO [nestO subN_Row H33 l32], blk gd (.cells #[(.slice A34 l36.length c35)] 37 (0, 0))] from hS80)
      refine WL.done rfl (WX.next (WC.region ?_))
      refine seg 3 [.v (.func (.func 95) #[] #[(pt ga), (pt gb), (pt gc), (pt gd), (pt ge)])] [0, 2, 3, 4, 5, 18, 19, 20, 45, 47] [(0, (iv p0)), (2, (pt gb)), (3, (pt gc)), (4, (pt gd)), (5, (pt ge)), (18, (sv Ab f2 cb)), (19, (iv (f2.length : Int))), (20, (iv x37)), (45, (.func (.func 95) #[] #[(pt ga), (pt gb), (pt gc), (pt gd), (pt ge)])), (47, (iv (w64 (p0 + 1))))] [.cell ⟨ge, 0, none⟩ (.func (.func 95) #[] #[(pt ga), (pt gb), (pt gc), (pt gd), (pt ge)])] (fun fb => by kernel_rfl) rfl ⟨blk_cell (hS81.rd 3).1 0 rfl, trivial⟩ ?_
      obtain ⟨t82, ht83, hx76⟩ := bind_some hx76
      refine WL.call (some 48) 95 #[(iv (w64 (p0 + 1))), (pt ga), (pt gb), (pt gc), (pt gd), (pt ge)] (fun fb => by kernel_rfl) (ih_ (w64 (p0 + 1)) f0 l32 f2 (l36.set (p0).toNat x37) ga gb A30 c31 H33 gc Ab cb gd A34 c35 ge t82 _ (hS81.rdT [1, 2, 3, 4, 0] 0) (hS81.rdT [1, 2, 3, 4, 0] 1) (hS81.rdT [1, 2, 3, 4, 0] 2) (hS81.rdT [1, 2, 3, 4, 0] 3) (hS81.io [1, 2, 3, 4, 0] (by decide)) ht83) (fun v w84 hR85 => ?_)
      obtain ⟨A87, c88, H89, A90, c91, rfl, hk_⟩ := hR85
      have hS86 := hS.go w84 [blk gb (.cells #[(sv A87 t82.1 c88)] 93 (0, 0)), rowO 99 encN_Row A87 c88 (tag H89 t82.1), poolO [nestO subN_Row H89 t82.1], blk gd (.cells #[(sv A90 t82.2 c91)] 37 (0, 0)), rowO 3 encInt A90 c91 t82.2] (hS81.call hk_ [1, 2, 3, 4, 0] [] (fun g hg => fpL_sel g hg) (by decide) (by decide))
      refine ⟨trivial, ?_⟩
      refine WL.done rfl ?_
      injection hx76 with hx76
      exact WX.to Kx75 ((t82.1, t82.2), A87, c88, H89, A90, c91) [0, 2, 3, 4, 5, 18, 19, 20] rfl ⟨(hS86.subR [0, 1, 2, 3]).sub [0, 1, 2, 3, 4] (by decide), hx76.symm⟩
     refine WC.condF2 (fun fb => by kernel_rfl) h77 ?_
     refine WC.skip ?_
     injection hx76 with hx76
     exact WX.to Kx75 ((l32, l36), A30, c31, H33, A34, c35) [0, 2, 3, 4, 5, 18, 19, 20] rfl ⟨(hS67.subR [0, 1, 2, 3]).sub [0, 1, 2, 3, 4] (by decide), hx76.symm⟩
    rintro ⟨y96, A70, c71, H72, A73, c74⟩ w92 ⟨hS93, hq94⟩
    subst hq94
    refine WX.blockN (WX.next ?_)
    refine WC.region ?_
    refine sg 2 [] [0, 2, 3, 4, 5, 18, 19, 20] [(0, (iv p0)), (2, (pt gb)), (3, (pt gc)), (4, (pt gd)), (5, (pt ge)), (18, (sv Ab f2 cb)), (19, (iv (f2.length : Int))), (20, (iv (w64 (x37 + 1))))] (by kernel_rfl) ?_
    refine WL.done rfl ?_
    exact WX.again k45 (Nat.lt_succ_self _) ((x75.1, x75.2, w64 (x37 + 1)), A70, c71, H72, A73, c74) [0, 2, 3, 4, 5, 18, 19, 20] rfl ⟨(hS93.subR [0, 1, 2, 3]).sub [0, 1, 2, 3, 4] (by decide), hl48⟩
   refine WC.condF2 (fun fb => by kernel_rfl) h49 ?_
   refine WC.exit ?_
   injection hl48 with hl48
   exact WX.thenX (WX.thenX (WX.blockHere (WX.to Kx43 ((l32, l36), A30, c31, H33, A34, c35) [2, 4] rfl ⟨(hS47.subR [0, 1, 2, 3]).sub [0, 1, 2, 3, 4] (by decide), hl48.symm⟩)))
 rintro ⟨y100, A38, c39, H40, A41, c42⟩ w97 ⟨hS98, hq99⟩
 subst hq99
 injection hf with hf
 subst hf
 exact WX.end_ [] (.tuple #[]) [] (fun fb => by kernel_rfl) trivial ⟨_, rfl, A38, c39, H40, A41, c42, rfl, (hS98.sub [0, 1, 2, 3, 4] (by decide)).noR⟩
theorem rows_All_calls (k : Nat) (p0 : List Tile) (p1 : Int) (Aa : Option Addr) (ca : Nat) (r : (List Row)) (w : World) (hR0 : RO NoS w (rowR enc_Tile Aa ca p0)) (hf : rows_All k p0 p1 = some r) :
  CallsR Try.prog 84 #[(sv Aa p0 ca), (iv p1)] w (fun v w' => ∃ (A1_ : Option Addr), ∃ (c1_ : Nat), ∃ (h1_ : Nat → HF), v = (sv A1_ r c1_) ∧ St NoS w w' [] [rowO 99 encN_Row A1_ c1_ (tag h1_ r), poolO [nestO subN_Row h1_ r]]) := by
 have hS : St NoS w w [rowR enc_Tile Aa ca p0] [] := St.init (ro_cons hR0 (ro_nil _ _))
 refine enter 14 Try.func84 rfl Try.ntmps84 rfl ?_
 unfold rows_All at hf
 refine WC.seq (WC.region ?_)
 refine WL.new hS 2 [] (fun g => (pt g)) (.cells #[(sv Aa p0 ca)] 28 (0, 0)) [] (fun fb g => by kernel_rfl) trivial (fun g2 w3 hS4 => ?_)
 refine ⟨trivial, ?_⟩
 refine WL.new hS4 3 [] (fun g => (pt g)) (.cells #[(iv p1)] 3 (0, 0)) [] (fun fb g => by kernel_rfl) trivial (fun g5 w6 hS7 => ?_)
 refine ⟨trivial, ?_⟩
 refine sg 3 [] [2, 3] [(2, (pt g2)), (3, (pt g5))] (by kernel_rfl) ?_
 refine WL.done rfl (WX.next (WC.seq (WC.region ?_)))
 refine WL.new hS7 5 [] (fun g => (pt g)) (.cells #[(.slice none 0 0)] 93 (0, 0)) [] (fun fb g => by kernel_rfl) trivial (fun g8 w9 hS10 => ?_)
 refine ⟨trivial, ?_⟩
 refine WL.done rfl (WX.next (WC.seq (WC.region ?_)))
 refine seg 1 [.v (iv p1)] [2, 3, 5, 8] [(2, (pt g2)), (3, (pt g5)), (5, (pt g8)), (8, (iv p1))] [.cell ⟨g5, 0, none⟩ (iv p1)] (fun fb => by kernel_rfl) rfl ⟨hS10.cell 1 rfl 0 rfl, trivial⟩ ?_
 obtain ⟨h11, hf⟩ := as_some hf
 refine WL.make hS10 (e := encInt) (T := 3) (tS := 37) (z := (iv 0)) (bytes := 8) (d := 9) (0 : Int) p1 (fun fb => by kernel_rfl) (by kernel_rfl) (by kernel_rfl) rfl (by decide) h11 (by decide) (fun g12 w13 hS14 => ?_)
 refine ⟨trivial, ?_⟩
 refine WL.new hS14 6 [] (fun g => (pt g)) (.cells #[(.slice none 0 0)] 37 (0, 0)) [] (fun fb g => by kernel_rfl) trivial (fun g15 w16 hS17 => ?_)
 refine ⟨trivial, ?_⟩
 refine WL.store hS17 0 rfl [(0, (sv (some ⟨g12, 0, none⟩) (List.replicate p1.toNat (0 : Int)) p1.toNat))] #[(sv (some ⟨g12, 0, none⟩) (List.replicate p1.toNat (0 : Int)) p1.toNat)] (fun fb => by kernel_rfl) (by kernel_rfl) rfl [1, 2, 3, 4] (by decide) (by decide) (fun w18 hS19 => ?_)
 refine ⟨trivial, ?_⟩
 refine WL.done rfl (WX.next (WC.seq (WC.region ?_)))
 refine WL.new hS19 7 [] (fun g => (pt g)) (.cells #[.nilFunc] 139 (0, 0)) [] (fun fb g => by kernel_rfl) trivial (fun g20 w21 hS22 => ?_)
 refine ⟨trivial, ?_⟩
 refine WL.done rfl (WX.next (WC.seq (WC.region ?_)))
 refine sg 1 [] [5, 7, 10] [(5, (pt g8)), (7, (pt g20)), (10, (.func (.func 95) #[] #[(pt g5), (pt g8), (pt g2), (pt g15), (pt g20)]))] (by kernel_rfl) ?_
 refine WL.store hS22 0 rfl [(0, (.func (.func 95) #[] #[(pt g5), (pt g8), (pt g2), (pt g15), (pt g20)]))] #[(.func (.func 95) #[] #[(pt g5), (pt g8), (pt g2), (pt g15), (pt g20)])] (fun fb => by kernel_rfl) (by kernel_rfl) rfl [1, 2, 3, 4, 5] (by decide) (by decide) (fun w23 hS24 => ?_)
 refine ⟨trivial, ?_⟩
 refine WL.done rfl (WX.next (WC.seq (WC.region ?_)))
 refine seg 1 [.v (.func (.func 95) #[] #[(pt g5), (pt g8), (pt g2), (pt g15), (pt g20)])] [5, 11] [(5, (pt g8)), (11, (.func (.func 95) #[] #[(pt g5), (pt g8), (pt g2), (pt g15), (pt g20)]))] [.cell ⟨g20, 0, none⟩ (.func (.func 95) #[] #[(pt g5), (pt g8), (pt g2), (pt g15), (pt g20)])] (fun fb => by kernel_rfl) rfl ⟨hS24.cell 0 rfl 0 rfl, trivial⟩ ?_
 have hS25 := hS.go w23 [rowO 99 encN_Row none 0 (tag h0 ([] : List Row)), blk g20 (.cells #[(.func (.func 95) #[] #[(pt g5), (pt g8), (pt g2), (pt g15), (pt g20)])] 139 (0, 0)), blk g15 (.cells #[(sv (some ⟨g12, 0, none⟩) (List.replicate p1.toNat (0 : Int)) p1.toNat)] 37 (0, 0)), rowO 3 encInt (some ⟨g12, 0, none⟩) p1.toNat (List.replicate p1.toNat (0 : Int)), blk g8 (.cells #[(.slice none 0 0)] 93 (0, 0)), blk g5 (.cells #[(iv p1)] 3 (0, 0)), blk g2 (.cells #[(sv Aa p0 ca)] 28 (0, 0))] (hS24.nilrow 99 encN_Row)
 have hS26 := hS25.poolNil subN_Row h0
 obtain ⟨t27, ht28, hf⟩ := bind_some hf
 refine WL.call (some 12) 95 #[(iv 0), (pt g5), (pt g8), (pt g2), (pt g15), (pt g20)] (fun fb => by kernel_rfl) (rows_All_1_calls _ 0 p1 ([] : List Row) p0 (List.replicate p1.toNat (0 : Int)) g5 g8 none 0 h0 g2 Aa ca g15 (some ⟨g12, 0, none⟩) p1.toNat g20 t27 _ (hS26.owT [5, 1, 0, 3, 4] 6 (by decide)) (hS26.owT [5, 1, 0, 3, 4] 7 (by decide)) (hS26.rdT [5, 1, 0, 3, 4] 0) (hS26.owT [5, 1, 0, 3, 4] 2 (by decide)) (hS26.io [5, 1, 0, 3, 4] (by decide)) ht28) (fun v w29 hR30 => ?_)
 obtain ⟨A32, c33, H34, A35, c36, rfl, hk_⟩ := hR30
 have hS31 := hS25.go w29 [blk g8 (.cells #[(sv A32 t27.1 c33)] 93 (0, 0)), rowO 99 encN_Row A32 c33 (tag H34 t27.1), poolO [nestO subN_Row H34 t27.1], blk g15 (.cells #[(sv A35 t27.2 c36)] 37 (0, 0)), rowO 3 encInt A35 c36 t27.2, blk g20 (.cells #[(.func (.func 95) #[] #[(pt g5), (pt g8), (pt g2), (pt g15), (pt g20)])] 139 (0, 0)), blk g5 (.cells #[(iv p1)] 3 (0, 0)), blk g2 (.cells #[(sv Aa p0 ca)] 28 (0, 0))] (hS26.call hk_ [5, 1, 0, 3, 4] [2, 6, 7] (fun g hg => fpL_sel g hg) (by decide) (by decide))
 refine ⟨trivial, ?_⟩
 refine WL.done rfl (WX.next (WC.seq (WC.region ?_)))
 refine seg 2 [.v (sv A32 t27.1 c33)] [4] [(4, (sv A32 t27.1 c33))] [.cell ⟨g8, 0, none⟩ (sv A32 t27.1 c33)] (fun fb => by kernel_rfl) rfl ⟨hS31.cell 0 rfl 0 rfl, trivial⟩ ?_
 refine WL.done rfl (WX.next ?_)
 refine WC.ret ?_
 injection hf with hf
 subst hf
 exact WX.ret_ [] (sv A32 t27.1 c33) [] (fun fb => by kernel_rfl) trivial ⟨_, rfl, A32, c33, H34, rfl, (hS31.sub [1, 2] (by decide)).noR⟩
theorem fill_begin_calls (k : Nat) (p0 : List Tile) (p1 : Int) (p2 : Int) (p3 : Edges) (Aa : Option Addr) (ca : Nat) (Ab : Option Addr) (cb : Nat) (Ac : Option Addr) (cc : Nat) (Ad : Option Addr) (cd : Nat) (Ae : Option Addr) (ce : Nat) (r : (Option Job) × Int) (w : World) (hR0 : RO NoS w (rowR enc_Tile Aa ca p0)) (hR1 : RO NoS w (rowR encInt Ab cb p3.North)) (hR2 : RO NoS w (rowR encInt Ac cc p3.East)) (hR3 : RO NoS w (rowR encInt Ad cd p3.South)) (hR4 : RO NoS w (rowR encInt Ae ce p3.West)) (hf : fill_begin k p0 p1 p2 p3 = some r) :
  CallsR Try.prog 93 #[(sv Aa p0 ca), (iv p1), (iv p2), (.agg #[(sv Ab p3.North cb), (sv Ac p3.East cc), (sv Ad p3.South cd), (sv Ae p3.West ce)])] w (fun v w' => ∃ (g1_ : Nat), ∃ (A2_ : Option Addr), ∃ (c2_ : Nat), ∃ (h2_ : Nat → HF), v = (.tuple #[(optP r.1 g1_), (iv r.2)]) ∧ optS r.1 (Keeps NoS w w') (fun y_ => St NoS w w' [] [blk g1_ (.cells #[(sv A2_ y_.rows c2_), (iv y_.width), (iv y_.height), (sv Ab p3.North cb), (sv Ac p3.East cc), (sv Ad p3.South cd), (sv Ae p3.West ce)] 136 (0, 0)), rowO 99 encN_Row A2_ c2_ (tag h2_ y_.rows), poolO [nestO subN_Row h2_ y_.rows]])) := by
 have hS : St NoS w w [rowR enc_Tile Aa ca p0, rowR encInt Ab cb p3.North, rowR encInt Ac cc p3.East, rowR encInt Ad cd p3.South, rowR encInt Ae ce p3.West] [] := St.init (ro_cons hR0 (ro_cons hR1 (ro_cons hR2 (ro_cons hR3 (ro_cons hR4 (ro_nil _ _))))))
 refine enter 76 Try.func93 rfl Try.ntmps93 rfl ?_
 unfold fill_begin at hf
 refine WC.seq (WC.region ?_)
 refine WL.new hS 7 [] (fun g => (pt g)) (.cells #[(sv Ab p3.North cb), (sv Ac p3.East cc), (sv Ad p3.South cd), (sv Ae p3.West ce)] 125 (0, 0)) [] (fun fb g => by kernel_rfl) trivial (fun g5 w6 hS7 => ?_)
 refine ⟨trivial, ?_⟩
 refine sg 3 [] [0, 1, 2, 7] [(0, (sv Aa p0 ca)), (1, (iv p1)), (2, (iv p2)), (7, (pt g5))] (by kernel_rfl) ?_
 refine WL.done rfl (WX.next (WC.seq (WC.seq (WC.region ?_))))
 refine sg 1 [] [0, 1, 2, 7, 12] [(0, (sv Aa p0 ca)), (1, (iv p1)), (2, (iv p2)), (7, (pt g5)), (12, (sv Aa p0 ca))] (by kernel_rfl) ?_
 obtain ⟨t8, ht9, hf⟩ := bind_some hf
 refine WL.call (some 13) 33 #[(sv Aa p0 ca)] (fun fb => by kernel_rfl) (tile_Valid_calls _ p0 Aa ca t8 _ (hS7.rd 0) ht9) (fun v w10 hR11 => ?_)
 obtain ⟨rfl, hk_⟩ := hR11
 have hS12 := hS7.keepN hk_
 refine ⟨trivial, ?_⟩
 refine sg 3 [] [0, 1, 2, 7, 14] [(0, (sv Aa p0 ca)), (1, (iv p1)), (2, (iv p2)), (7, (pt g5)), (14, (bv (!t8)))] (by kernel_rfl) ?_
 refine WL.done rfl (WX.next ?_)
 rcases br_some hf with ⟨h13, hf⟩ | ⟨h13, hf⟩
 ·refine WC.condT2 (fun fb => by kernel_rfl) h13 ?_
  refine WC.seq (WC.region ?_)
  refine sg 2 [] [8, 9] [(8, (.pointer none)), (9, (iv 1))] (by kernel_rfl) ?_
  refine WL.done rfl (WX.next ?_)
  refine WC.ret ?_
  injection hf with hf
  subst hf
  exact WX.thenR (WX.ret_ [] (.tuple #[(.pointer none), (iv 1)]) [] (fun fb => by kernel_rfl) trivial ⟨_, rfl, 0, none, 0, h0, rfl, hS12.keep⟩)
 refine WC.condF2 (fun fb => by kernel_rfl) h13 ?_
 refine WC.skip (WX.next (WC.seq (WC.seq (WC.region ?_))))
 refine sg 3 [] [0, 1, 2, 7, 17] [(0, (sv Aa p0 ca)), (1, (iv p1)), (2, (iv p2)), (7, (pt g5)), (17, (bv (decide (p1 < 1))))] (by kernel_rfl) ?_
 refine WL.cutV (T := Bool) 6 (fun t => [(20, (bv t)), (0, (sv Aa p0 ca)), (1, (iv p1)), (2, (iv p2)), (7, (pt g5))]) (fun t => ((decide (p1 < 1)) || (decide (p1 > 8))) = t) (fun K => ?_) ?_
 ·
  rcases Bool.eq_false_or_eq_true (decide (p1 < 1)) with h14 | h14
  ·
   refine WL.setB 17 h14 rfl ?_
   refine sg 6 [] [0, 1, 2, 7, 20] [(0, (sv Aa p0 ca)), (1, (iv p1)), (2, (iv p2)), (7, (pt g5)), (20, (bv true))] (by kernel_rfl) ?_
   exact WL.toV K true [20, 0, 1, 2, 7] rfl (by first | (rw [h14]; done) | (rw [h14]; rfl))
  refine WL.setB 17 h14 rfl ?_
  refine sg 6 [] [0, 1, 2, 7, 20] [(0, (sv Aa p0 ca)), (1, (iv p1)), (2, (iv p2)), (7, (pt g5)), (20, (bv (decide (p1 > 8))))] (by kernel_rfl) ?_
  exact WL.toV K (decide (p1 > 8)) [20, 0, 1, 2, 7] rfl (by first | (rw [h14]; done) | (rw [h14]; rfl))
 rintro b15 rfl
 refine sg 7 [] [0, 1, 2, 7, 21] [(0, (sv Aa p0 ca)), (1, (iv p1)), (2, (iv p2)), (7, (pt g5)), (21, (bv ((decide (p1 < 1)) || (decide (p1 > 8)))))] (by kernel_rfl) ?_
 refine WL.cutV (T := Bool) 10 (fun t => [(24, (bv t)), (0, (sv Aa p0 ca)), (1, (iv p1)), (2, (iv p2)), (7, (pt g5))]) (fun t => (((decide (p1 < 1)) || (decide (p1 > 8))) || (decide (p2 < 1))) = t) (fun K => ?_) ?_
 ·
  rcases Bool.eq_false_or_eq_true ((decide (p1 < 1)) || (decide (p1 > 8))) with h16 | h16
  ·
   refine WL.setB 21 h16 rfl ?_
   refine sg 10 [] [0, 1, 2, 7, 24] [(0, (sv Aa p0 ca)), (1, (iv p1)), (2, (iv p2)), (7, (pt g5)), (24, (bv true))] (by kernel_rfl) ?_
   exact WL.toV K true [24, 0, 1, 2, 7] rfl (by first | (rw [h16]; done) | (rw [h16]; rfl))
  refine WL.setB 21 h16 rfl ?_
  refine sg 10 [] [0, 1, 2, 7, 24] [(0, (sv Aa p0 ca)), (1, (iv p1)), (2, (iv p2)), (7, (pt g5)), (24, (bv (decide (p2 < 1))))] (by kernel_rfl) ?_
  exact WL.toV K (decide (p2 < 1)) [24, 0, 1, 2, 7] rfl (by first | (rw [h16]; done) | (rw [h16]; rfl))
 rintro b17 rfl
 refine sg 11 [] [0, 1, 2, 7, 25] [(0, (sv Aa p0 ca)), (1, (iv p1)), (2, (iv p2)), (7, (pt g5)), (25, (bv (((decide (p1 < 1)) || (decide (p1 > 8))) || (decide (p2 < 1)))))] (by kernel_rfl) ?_
 refine WL.cutV (T := Bool) 14 (fun t => [(28, (bv t)), (0, (sv Aa p0 ca)), (1, (iv p1)), (2, (iv p2)), (7, (pt g5))]) (fun t => ((((decide (p1 < 1)) || (decide (p1 > 8))) || (decide (p2 < 1))) || (decide (p2 > 60))) = t) (fun K => ?_) ?_
 ·
  rcases Bool.eq_false_or_eq_true (((decide (p1 < 1)) || (decide (p1 > 8))) || (decide (p2 < 1))) with h18 | h18
  ·
   refine WL.setB 25 h18 rfl ?_
   refine sg 14 [] [0, 1, 2, 7, 28] [(0, (sv Aa p0 ca)), (1, (iv p1)), (2, (iv p2)), (7, (pt g5)), (28, (bv true))] (by kernel_rfl) ?_
   exact WL.toV K true [28, 0, 1, 2, 7] rfl (by first | (rw [h18]; done) | (rw [h18]; rfl))
  refine WL.setB 25 h18 rfl ?_
  refine sg 14 [] [0, 1, 2, 7, 28] [(0, (sv Aa p0 ca)), (1, (iv p1)), (2, (iv p2)), (7, (pt g5)), (28, (bv (decide (p2 > 60))))] (by kernel_rfl) ?_
  exact WL.toV K (decide (p2 > 60)) [28, 0, 1, 2, 7] rfl (by first | (rw [h18]; done) | (rw [h18]; rfl))
 rintro b19 rfl
 refine WL.done rfl (WX.next ?_)
 rcases br_some hf with ⟨h20, hf⟩ | ⟨h20, hf⟩
 ·refine WC.condT2 (fun fb => by kernel_rfl) h20 ?_
  refine WC.seq (WC.region ?_)
  refine sg 2 [] [8, 9] [(8, (.pointer none)), (9, (iv 2))] (by kernel_rfl) ?_
  refine WL.done rfl (WX.next ?_)
  refine WC.ret ?_
  injection hf with hf
  subst hf
  exact WX.thenR (WX.ret_ [] (.tuple #[(.pointer none), (iv 2)]) [] (fun fb => by kernel_rfl) trivial ⟨_, rfl, 0, none, 0, h0, rfl, hS12.keep⟩)
 refine WC.condF2 (fun fb => by kernel_rfl) h20 ?_
 refine WC.skip (WX.next (WC.seq (WC.seq (WC.region ?_))))
 refine seg 16 [.v (sv Ab p3.North cb), .v (sv Ad p3.South cd), .v (sv Ac p3.East cc), .v (sv Ae p3.West ce)] [0, 1, 2, 7, 32, 36, 40, 44] [(0, (sv Aa p0 ca)), (1, (iv p1)), (2, (iv p2)), (7, (pt g5)), (32, (.agg #[(sv Ab p3.North cb), (iv p1)])), (36, (.agg #[(sv Ad p3.South cd), (iv p1)])), (40, (.agg #[(sv Ac p3.East cc), (iv p2)])), (44, (.agg #[(sv Ae p3.West ce), (iv p2)]))] [.cell ⟨g5, 0, none⟩ (sv Ab p3.North cb), .cell ⟨g5, 2, none⟩ (sv Ad p3.South cd), .cell ⟨g5, 1, none⟩ (sv Ac p3.East cc), .cell ⟨g5, 3, none⟩ (sv Ae p3.West ce)] (fun fb => by kernel_rfl) rfl ⟨hS12.cell 0 rfl 0 rfl, hS12.cell 0 rfl 2 rfl, hS12.cell 0 rfl 1 rfl, hS12.cell 0 rfl 3 rfl, trivial⟩ ?_
 refine WL.new hS12 45 [] (fun g => (.slice (some ⟨g, 0, none⟩) 4 4)) (.cells #[(sv Ab p3.North cb), (iv p1), (sv Ad p3.South cd), (iv p1), (sv Ac p3.East cc), (iv p2), (sv Ae p3.West ce), (iv p2)] 144 (0, 0)) [] (fun fb g => by kernel_rfl) trivial (fun g21 w22 hS23 => ?_)
 refine ⟨trivial, ?_⟩
 have hS25 : St NoS w w22 [nestO subN_S_side_n (hlN [(hd1 Ab cb), (hd1 Ad cd), (hd1 Ac cc), (hd1 Ae ce)]) [(S_side_n.mk p3.North p1), (S_side_n.mk p3.South p1), (S_side_n.mk p3.East p2), (S_side_n.mk p3.West p2)], rowR enc_Tile Aa ca p0, rowR encInt Ab cb p3.North, rowR encInt Ac cc p3.East, rowR encInt Ad cd p3.South, rowR encInt Ae ce p3.West] [blk g21 (.cells #[(sv Ab p3.North cb), (iv p1), (sv Ad p3.South cd), (iv p1), (sv Ac p3.East cc), (iv p2), (sv Ae p3.West ce), (iv p2)] 144 (0, 0)), blk g5 (.cells #[(sv Ab p3.North cb), (sv Ac p3.East cc), (sv Ad p3.South cd), (sv Ae p3.West ce)] 125 (0, 0))] := hS23.addR _ (nestO_cons (hS23.rdL 1) (nestO_cons (hS23.rdL 3) (nestO_cons (hS23.rdL 2) (nestO_cons (hS23.rdL 4) (nestO_nil _ _ _ _)))))
 have hS24 := hS25.go w22 [rowO 144 encN_S_side_n (some ⟨g21, 0, none⟩) 4 (tag (hlN [(hd1 Ab cb), (hd1 Ad cd), (hd1 Ac cc), (hd1 Ae ce)]) [(S_side_n.mk p3.North p1), (S_side_n.mk p3.South p1), (S_side_n.mk p3.East p2), (S_side_n.mk p3.West p2)]), blk g5 (.cells #[(sv Ab p3.North cb), (sv Ac p3.East cc), (sv Ad p3.South cd), (sv Ae p3.West ce)] 125 (0, 0))] (hS25.map1 0 _ (fun h => rowO.ofBlk h rfl (Nat.le_of_ble_eq_true (by kernel_rfl))) (fun _ h => by obtain ⟨_, h1, h2⟩ := h; injection h1 with h1; subst h1; exact h2) [1] (by decide) (by decide))
 refine sg 19 [] [0, 1, 2, 7, 45, 46, 47] [(0, (sv Aa p0 ca)), (1, (iv p1)), (2, (iv p2)), (7, (pt g5)), (45, (sv (some ⟨g21, 0, none⟩) [(S_side_n.mk p3.North p1), (S_side_n.mk p3.South p1), (S_side_n.mk p3.East p2), (S_side_n.mk p3.West p2)] 4)), (46, (iv ([(S_side_n.mk p3.North p1), (S_side_n.mk p3.South p1), (S_side_n.mk p3.East p2), (S_side_n.mk p3.West p2)].length : Int))), (47, (iv 0))] (by kernel_rfl) ?_
 refine WL.done rfl (WX.next ?_)
 obtain ⟨x27, hx28, hf⟩ := bind_some hf
 refine WC.cutN (T := Unit) (fun t => [(0, (sv Aa p0 ca)), (1, (iv p1)), (2, (iv p2)), (7, (pt g5))]) (fun t w1 => St NoS w w1 [nestO subN_S_side_n (hlN [(hd1 Ab cb), (hd1 Ad cd), (hd1 Ac cc), (hd1 Ae ce)]) [(S_side_n.mk p3.North p1), (S_side_n.mk p3.South p1), (S_side_n.mk p3.East p2), (S_side_n.mk p3.West p2)], rowR enc_Tile Aa ca p0, rowR encInt Ab cb p3.North, rowR encInt Ac cc p3.East, rowR encInt Ad cd p3.South, rowR encInt Ae ce p3.West] [blk g5 (.cells #[(sv Ab p3.North cb), (sv Ac p3.East cc), (sv Ad p3.South cd), (sv Ae p3.West ce)] 125 (0, 0))] ∧ x27 = .inr t) (fun Kx27 => ?_) ?_
 ·
  refine WC.block ?_
  refine WC.loop (T := Int) (fun t => [(0, (sv Aa p0 ca)), (1, (iv p1)), (2, (iv p2)), (7, (pt g5)), (45, (sv (some ⟨g21, 0, none⟩) [(S_side_n.mk p3.North p1), (S_side_n.mk p3.South p1), (S_side_n.mk p3.East p2), (S_side_n.mk p3.West p2)] 4)), (46, (iv ([(S_side_n.mk p3.North p1), (S_side_n.mk p3.South p1), (S_side_n.mk p3.East p2), (S_side_n.mk p3.West p2)].length : Int))), (47, (iv t))]) (fun n t w1 => St NoS w w1 [nestO subN_S_side_n (hlN [(hd1 Ab cb), (hd1 Ad cd), (hd1 Ac cc), (hd1 Ae ce)]) [(S_side_n.mk p3.North p1), (S_side_n.mk p3.South p1), (S_side_n.mk p3.East p2), (S_side_n.mk p3.West p2)], rowR enc_Tile Aa ca p0, rowR encInt Ab cb p3.North, rowR encInt Ac cc p3.East, rowR encInt Ad cd p3.South, rowR encInt Ae ce p3.West] [blk g5 (.cells #[(sv Ab p3.North cb), (sv Ac p3.East cc), (sv Ad p3.South cd), (sv Ae p3.West ce)] 125 (0, 0)), rowO 144 encN_S_side_n (some ⟨g21, 0, none⟩) 4 (tag (hlN [(hd1 Ab cb), (hd1 Ad cd), (hd1 Ac cc), (hd1 Ae ce)]) [(S_side_n.mk p3.North p1), (S_side_n.mk p3.South p1), (S_side_n.mk p3.East p2), (S_side_n.mk p3.West p2)])] ∧ fill_begin.l0 n t p1 p2 p3 = some x27) k 0 [0, 1, 2, 7, 45, 46, 47] rfl ⟨(hS24.subR [0, 1, 2, 3, 4, 5]).sub [1, 0] (by decide), hx28⟩ ?_
  rintro k29 x26 w30 ⟨hS31, hl32⟩
  cases k29 with
  | zero => rw [fill_begin.l0] at hl32; cases hl32
  | succ k29 =>
   rw [fill_begin.l0] at hl32
   refine WC.seq (WC.region ?_)
   refine sg 1 [] [0, 1, 2, 7, 45, 46, 47, 48] [(0, (sv Aa p0 ca)), (1, (iv p1)), (2, (iv p2)), (7, (pt g5)), (45, (sv (some ⟨g21, 0, none⟩) [(S_side_n.mk p3.North p1), (S_side_n.mk p3.South p1), (S_side_n.mk p3.East p2), (S_side_n.mk p3.West p2)] 4)), (46, (iv ([(S_side_n.mk p3.North p1), (S_side_n.mk p3.South p1), (S_side_n.mk p3.East p2), (S_side_n.mk p3.West p2)].length : Int))), (47, (iv x26)), (48, (bv (decide (x26 < ([(S_side_n.mk p3.North p1), (S_side_n.mk p3.South p1), (S_side_n.mk p3.East p2), (S_side_n.mk p3.West p2)].length : Int)))))] (by kernel_rfl) ?_
   refine WL.done rfl (WX.next (WC.seq ?_))
   rcases br_some hl32 with ⟨h33, hl32⟩ | ⟨h33, hl32⟩
   ·refine WC.condT2 (fun fb => by kernel_rfl) h33 ?_
    refine WC.skip (WX.next (WC.seq (WC.block (WC.seq (WC.region ?_)))))
    obtain ⟨h34, hl32⟩ := as_some hl32
    refine seg 2 [.v (sv (((hlN [(hd1 Ab cb), (hd1 Ad cd), (hd1 Ac cc), (hd1 Ae ce)]) x26.toNat 0).1) ((rdD [(S_side_n.mk p3.North p1), (S_side_n.mk p3.South p1), (S_side_n.mk p3.East p2), (S_side_n.mk p3.West p2)] x26 z_S_side_n).side) (((hlN [(hd1 Ab cb), (hd1 Ad cd), (hd1 Ac cc), (hd1 Ae ce)]) x26.toNat 0).2)), .v (iv ((rdD [(S_side_n.mk p3.North p1), (S_side_n.mk p3.South p1), (S_side_n.mk p3.East p2), (S_side_n.mk p3.West p2)] x26 z_S_side_n).n))] [0, 1, 2, 7, 45, 46, 47, 50] [(0, (sv Aa p0 ca)), (1, (iv p1)), (2, (iv p2)), (7, (pt g5)), (45, (sv (some ⟨g21, 0, none⟩) [(S_side_n.mk p3.North p1), (S_side_n.mk p3.South p1), (S_side_n.mk p3.East p2), (S_side_n.mk p3.West p2)] 4)), (46, (iv ([(S_side_n.mk p3.North p1), (S_side_n.mk p3.South p1), (S_side_n.mk p3.East p2), (S_side_n.mk p3.West p2)].length : Int))), (47, (iv x26)), (50, (.agg #[(sv (((hlN [(hd1 Ab cb), (hd1 Ad cd), (hd1 Ac cc), (hd1 Ae ce)]) x26.toNat 0).1) ((rdD [(S_side_n.mk p3.North p1), (S_side_n.mk p3.South p1), (S_side_n.mk p3.East p2), (S_side_n.mk p3.West p2)] x26 z_S_side_n).side) (((hlN [(hd1 Ab cb), (hd1 Ad cd), (hd1 Ac cc), (hd1 Ae ce)]) x26.toNat 0).2)), (iv ((rdD [(S_side_n.mk p3.North p1), (S_side_n.mk p3.South p1), (S_side_n.mk p3.East p2), (S_side_n.mk p3.West p2)] x26 z_S_side_n).n))]))] [.idx (some ⟨g21, 0, none⟩) x26 [(S_side_n.mk p3.North p1), (S_side_n.mk p3.South p1), (S_side_n.mk p3.East p2), (S_side_n.mk p3.West p2)].length, .cell ((adr (some ⟨g21, 0, none⟩)).add ((x26).toNat * 2)) (sv (((hlN [(hd1 Ab cb), (hd1 Ad cd), (hd1 Ac cc), (hd1 Ae ce)]) x26.toNat 0).1) ((rdD [(S_side_n.mk p3.North p1), (S_side_n.mk p3.South p1), (S_side_n.mk p3.East p2), (S_side_n.mk p3.West p2)] x26 z_S_side_n).side) (((hlN [(hd1 Ab cb), (hd1 Ad cd), (hd1 Ac cc), (hd1 Ae ce)]) x26.toNat 0).2)), .cell (((adr (some ⟨g21, 0, none⟩)).add ((x26).toNat * 2)).add 1) (iv ((rdD [(S_side_n.mk p3.North p1), (S_side_n.mk p3.South p1), (S_side_n.mk p3.East p2), (S_side_n.mk p3.West p2)] x26 z_S_side_n).n))] (fun fb => by kernel_rfl) rfl ⟨nrow_adr (rowO.rd (hS31.own 1).1) h34.1 h34.2, nrow_cell (rowO.rd (hS31.own 1).1) z_S_side_n h34.1 h34.2 0 rfl, nrow_cell (rowO.rd (hS31.own 1).1) z_S_side_n h34.1 h34.2 1 rfl, trivial⟩ ?_
    refine WL.new hS31 11 [] (fun g => (pt g)) (.cells #[(.slice none 0 0), (iv 0)] 144 (0, 0)) [] (fun fb g => by kernel_rfl) trivial (fun g35 w36 hS37 => ?_)
    refine ⟨trivial, ?_⟩
    refine WL.store hS37 0 rfl [(0, (sv (((hlN [(hd1 Ab cb), (hd1 Ad cd), (hd1 Ac cc), (hd1 Ae ce)]) x26.toNat 0).1) ((rdD [(S_side_n.mk p3.North p1), (S_side_n.mk p3.South p1), (S_side_n.mk p3.East p2), (S_side_n.mk p3.West p2)] x26 z_S_side_n).side) (((hlN [(hd1 Ab cb), (hd1 Ad cd), (hd1 Ac cc), (hd1 Ae ce)]) x26.toNat 0).2))), (1, (iv ((rdD [(S_side_n.mk p3.North p1), (S_side_n.mk p3.South p1), (S_side_n.mk p3.East p2), (S_side_n.mk p3.West p2)] x26 z_S_side_n).n)))] #[(sv (((hlN [(hd1 Ab cb), (hd1 Ad cd), (hd1 Ac cc), (hd1 Ae ce)]) x26.toNat 0).1) ((rdD [(S_side_n.mk p3.North p1), (S_side_n.mk p3.South p1), (S_side_n.mk p3.East p2), (S_side_n.mk p3.West p2)] x26 z_S_side_n).side) (((hlN [(hd1 Ab cb), (hd1 Ad cd), (hd1 Ac cc), (hd1 Ae ce)]) x26.toNat 0).2)), (iv ((rdD [(S_side_n.mk p3.North p1), (S_side_n.mk p3.South p1), (S_side_n.mk p3.East p2), (S_side_n.mk p3.West p2)] x26 z_S_side_n).n))] (fun fb => by kernel_rfl) (by kernel_rfl) rfl [1, 2] (by decide) (by decide) (fun w38 hS39 => ?_)
    refine ⟨trivial, ?_⟩
    refine WL.done rfl (WX.next (WC.seq (WC.region ?_)))
    refine seg 5 [.v (sv (((hlN [(hd1 Ab cb), (hd1 Ad cd), (hd1 Ac cc), (hd1 Ae ce)]) x26.toNat 0).1) ((rdD [(S_side_n.mk p3.North p1), (S_side_n.mk p3.South p1), (S_side_n.mk p3.East p2), (S_side_n.mk p3.West p2)] x26 z_S_side_n).side) (((hlN [(hd1 Ab cb), (hd1 Ad cd), (hd1 Ac cc), (hd1 Ae ce)]) x26.toNat 0).2))] [0, 1, 2, 7, 11, 45, 46, 47, 55] [(0, (sv Aa p0 ca)), (1, (iv p1)), (2, (iv p2)), (7, (pt g5)), (11, (pt g35)), (45, (sv (some ⟨g21, 0, none⟩) [(S_side_n.mk p3.North p1), (S_side_n.mk p3.South p1), (S_side_n.mk p3.East p2), (S_side_n.mk p3.West p2)] 4)), (46, (iv ([(S_side_n.mk p3.North p1), (S_side_n.mk p3.South p1), (S_side_n.mk p3.East p2), (S_side_n.mk p3.West p2)].length : Int))), (47, (iv x26)), (55, (bv ((((rdD [(S_side_n.mk p3.North p1), (S_side_n.mk p3.South p1), (S_side_n.mk p3.East p2), (S_side_n.mk p3.West p2)] x26 z_S_side_n).side).length : Int) != 0)))] [.cell ⟨g35, 0, none⟩ (sv (((hlN [(hd1 Ab cb), (hd1 Ad cd), (hd1 Ac cc), (hd1 Ae ce)]) x26.toNat 0).1) ((rdD [(S_side_n.mk p3.North p1), (S_side_n.mk p3.South p1), (S_side_n.mk p3.East p2), (S_side_n.mk p3.West p2)] x26 z_S_side_n).side) (((hlN [(hd1 Ab cb), (hd1 Ad cd), (hd1 Ac cc), (hd1 Ae ce)]) x26.toNat 0).2))] (fun fb => by kernel_rfl) rfl ⟨hS39.cell 0 rfl 0 rfl, trivial⟩ ?_
    refine WL.cutV (T := Bool) 12 (fun t => [(62, (bv t)), (0, (sv Aa p0 ca)), (1, (iv p1)), (2, (iv p2)), (7, (pt g5)), (45, (sv (some ⟨g21, 0, none⟩) [(S_side_n.mk p3.North p1), (S_side_n.mk p3.South p1), (S_side_n.mk p3.East p2), (S_side_n.mk p3.West p2)] 4)), (46, (iv ([(S_side_n.mk p3.North p1), (S_side_n.mk p3.South p1), (S_side_n.mk p3.East p2), (S_side_n.mk p3.West p2)].length : Int))), (47, (iv x26))]) (fun t => (((((rdD [(S_side_n.mk p3.North p1), (S_side_n.mk p3.South p1), (S_side_n.mk p3.East p2), (S_side_n.mk p3.West p2)] x26 z_S_side_n).side).length : Int) != 0) && ((((rdD [(S_side_n.mk p3.North p1), (S_side_n.mk p3.South p1), (S_side_n.mk p3.East p2), (S_side_n.mk p3.West p2)] x26 z_S_side_n).side).length : Int) != ((rdD [(S_side_n.mk p3.North p1), (S_side_n.mk p3.South p1), (S_side_n.mk p3.East p2), (S_side_n.mk p3.West p2)] x26 z_S_side_n).n))) = t) (fun K => ?_) ?_
    ·
     rcases Bool.eq_false_or_eq_true ((((rdD [(S_side_n.mk p3.North p1), (S_side_n.mk p3.South p1), (S_side_n.mk p3.East p2), (S_side_n.mk p3.West p2)] x26 z_S_side_n).side).length : Int) != 0) with h40 | h40
     ·
      refine WL.setB 55 h40 rfl ?_
      refine seg 12 [.v (sv (((hlN [(hd1 Ab cb), (hd1 Ad cd), (hd1 Ac cc), (hd1 Ae ce)]) x26.toNat 0).1) ((rdD [(S_side_n.mk p3.North p1), (S_side_n.mk p3.South p1), (S_side_n.mk p3.East p2), (S_side_n.mk p3.West p2)] x26 z_S_side_n).side) (((hlN [(hd1 Ab cb), (hd1 Ad cd), (hd1 Ac cc), (hd1 Ae ce)]) x26.toNat 0).2)), .v (iv ((rdD [(S_side_n.mk p3.North p1), (S_side_n.mk p3.South p1), (S_side_n.mk p3.East p2), (S_side_n.mk p3.West p2)] x26 z_S_side_n).n))] [0, 1, 2, 7, 45, 46, 47, 62] [(0, (sv Aa p0 ca)), (1, (iv p1)), (2, (iv p2)), (7, (pt g5)), (45, (sv (some ⟨g21, 0, none⟩) [(S_side_n.mk p3.North p1), (S_side_n.mk p3.South p1), (S_side_n.mk p3.East p2), (S_side_n.mk p3.West p2)] 4)), (46, (iv ([(S_side_n.mk p3.North p1), (S_side_n.mk p3.South p1), (S_side_n.mk p3.East p2), (S_side_n.mk p3.West p2)].length : Int))), (47, (iv x26)), (62, (bv ((((rdD [(S_side_n.mk p3.North p1), (S_side_n.mk p3.South p1), (S_side_n.mk p3.East p2), (S_side_n.mk p3.West p2)] x26 z_S_side_n).side).length : Int) != ((rdD [(S_side_n.mk p3.North p1), (S_side_n.mk p3.South p1), (S_side_n.mk p3.East p2), (S_side_n.mk p3.West p2)] x26 z_S_side_n).n))))] [.cell ⟨g35, 0, none⟩ (sv (((hlN [(hd1 Ab cb), (hd1 Ad cd), (hd1 Ac cc), (hd1 Ae ce)]) x26.toNat 0).1) ((rdD [(S_side_n.mk p3.North p1), (S_side_n.mk p3.South p1), (S_side_n.mk p3.East p2), (S_side_n.mk p3.West p2)] x26 z_S_side_n).side) (((hlN [(hd1 Ab cb), (hd1 Ad cd), (hd1 Ac cc), (hd1 Ae ce)]) x26.toNat 0).2)), .cell ⟨g35, 1, none⟩ (iv ((rdD [(S_side_n.mk p3.North p1), (S_side_n.mk p3.South p1), (S_side_n.mk p3.East p2), (S_side_n.mk p3.West p2)] x26 z_S_side_n).n))] (fun fb => by kernel_rfl) rfl ⟨hS39.cell 0 rfl 0 rfl, hS39.cell 0 rfl 1 rfl, trivial⟩ ?_
      exact WL.toV K ((((rdD [(S_side_n.mk p3.North p1), (S_side_n.mk p3.South p1), (S_side_n.mk p3.East p2), (S_side_n.mk p3.West p2)] x26 z_S_side_n).side).length : Int) != ((rdD [(S_side_n.mk p3.North p1), (S_side_n.mk p3.South p1), (S_side_n.mk p3.East p2), (S_side_n.mk p3.West p2)] x26 z_S_side_n).n)) [62, 0, 1, 2, 7, 45, 46, 47] rfl (by first | (rw [h40]; done) | (rw [h40]; rfl))
     refine WL.setB 55 h40 rfl ?_
     refine sg 12 [] [0, 1, 2, 7, 45, 46, 47, 62] [(0, (sv Aa p0 ca)), (1, (iv p1)), (2, (iv p2)), (7, (pt g5)), (45, (sv (some ⟨g21, 0, none⟩) [(S_side_n.mk p3.North p1), (S_side_n.mk p3.South p1), (S_side_n.mk p3.East p2), (S_side_n.mk p3.West p2)] 4)), (46, (iv ([(S_side_n.mk p3.North p1), (S_side_n.mk p3.South p1), (S_side_n.mk p3.East p2), (S_side_n.mk p3.West p2)].length : Int))), (47, (iv x26)), (62, (bv false))] (by kernel_rfl) ?_
     exact WL.toV K false [62, 0, 1, 2, 7, 45, 46, 47] rfl (by first | (rw [h40]; done) | (rw [h40]; rfl))
    rintro b41 rfl
    refine WL.done rfl (WX.next ?_)
    rcases br_some hl32 with ⟨h42, hl32⟩ | ⟨h42, hl32⟩
    ·refine WC.condT2 (fun fb => by kernel_rfl) h42 ?_
     refine WC.seq (WC.region ?_)
     refine sg 2 [] [8, 9] [(8, (.pointer none)), (9, (iv 2))] (by kernel_rfl) ?_
     refine WL.done rfl (WX.next ?_)
     refine WC.ret ?_
     injection hl32 with hl32
     subst hl32
     injection hf with hf
     subst hf
     exact WX.blockR (WX.thenR (WX.thenR (WX.blockR (WX.thenR (WX.ret_ [] (.tuple #[(.pointer none), (iv 2)]) [] (fun fb => by kernel_rfl) trivial ⟨_, rfl, 0, none, 0, h0, rfl, hS39.keep⟩)))))
    refine WC.condF2 (fun fb => by kernel_rfl) h42 ?_
    refine WC.skip ?_
    refine WX.blockN (WX.next ?_)
    refine WC.region ?_
    refine sg 2 [] [0, 1, 2, 7, 45, 46, 47] [(0, (sv Aa p0 ca)), (1, (iv p1)), (2, (iv p2)), (7, (pt g5)), (45, (sv (some ⟨g21, 0, none⟩) [(S_side_n.mk p3.North p1), (S_side_n.mk p3.South p1), (S_side_n.mk p3.East p2), (S_side_n.mk p3.West p2)] 4)), (46, (iv ([(S_side_n.mk p3.North p1), (S_side_n.mk p3.South p1), (S_side_n.mk p3.East p2), (S_side_n.mk p3.West p2)].length : Int))), (47, (iv (w64 (x26 + 1))))] (by kernel_rfl) ?_
    refine WL.done rfl ?_
    exact WX.again k29 (Nat.lt_succ_self _) (w64 (x26 + 1)) [0, 1, 2, 7, 45, 46, 47] rfl ⟨(hS39.subR [0, 1, 2, 3, 4, 5]).sub [1, 2] (by decide), hl32⟩
   refine WC.condF2 (fun fb => by kernel_rfl) h33 ?_
   refine WC.exit ?_
   injection hl32 with hl32
   exact WX.thenX (WX.thenX (WX.blockHere (WX.to Kx27 () [0, 1, 2, 7] rfl ⟨(hS31.subR [0, 1, 2, 3, 4, 5]).sub [0] (by decide), hl32.symm⟩)))
 rintro y46 w43 ⟨hS44, hq45⟩
 subst hq45
 have hf := sum_inr hf
 refine WX.next (WC.seq (WC.seq (WC.region ?_)))
 refine sg 2 [] [0, 1, 2, 7, 64, 65] [(0, (sv Aa p0 ca)), (1, (iv p1)), (2, (iv p2)), (7, (pt g5)), (64, (sv Aa p0 ca)), (65, (iv p1))] (by kernel_rfl) ?_
 obtain ⟨t47, ht48, hf⟩ := bind_some hf
 refine WL.call (some 66) 44 #[(sv Aa p0 ca), (iv p1)] (fun fb => by kernel_rfl) (rows_Few_calls _ p0 p1 Aa ca t47 _ (hS44.rd 1) ht48) (fun v w49 hR50 => ?_)
 obtain ⟨rfl, hk_⟩ := hR50
 have hS51 := hS44.keepN hk_
 refine ⟨trivial, ?_⟩
 refine sg 4 [] [0, 1, 2, 7, 67] [(0, (sv Aa p0 ca)), (1, (iv p1)), (2, (iv p2)), (7, (pt g5)), (67, (bv (!t47)))] (by kernel_rfl) ?_
 refine WL.done rfl (WX.next ?_)
 rcases br_some hf with ⟨h52, hf⟩ | ⟨h52, hf⟩
 ·refine WC.condT2 (fun fb => by kernel_rfl) h52 ?_
  refine WC.seq (WC.region ?_)
  refine sg 2 [] [8, 9] [(8, (.pointer none)), (9, (iv 4))] (by kernel_rfl) ?_
  refine WL.done rfl (WX.next ?_)
  refine WC.ret ?_
  injection hf with hf
  subst hf
  exact WX.thenR (WX.ret_ [] (.tuple #[(.pointer none), (iv 4)]) [] (fun fb => by kernel_rfl) trivial ⟨_, rfl, 0, none, 0, h0, rfl, hS51.keep⟩)
 refine WC.condF2 (fun fb => by kernel_rfl) h52 ?_
 refine WC.skip (WX.next (WC.seq ?_))
 refine WC.regionD ([(5, ⟨g5, 0, none⟩, (sv Ab p3.North cb)), (5, ⟨g5, 1, none⟩, (sv Ac p3.East cc)), (5, ⟨g5, 2, none⟩, (sv Ad p3.South cd)), (5, ⟨g5, 3, none⟩, (sv Ae p3.West ce))], [0, 1, 3, 4, 5, 6, 8, 9], [[], [], [0, 1], [], [], [], [0, 1, 2, 3, 4, 5], [0, 1, 2, 3, 4, 5, 6], [0, 1, 2, 3, 4, 5, 6, 7], [0, 1, 2, 3, 4, 5, 6, 7, 8]]) [[0, 1, 3, 4, 5, 2, 6, 7, 8, 9]] (by kernel_rfl) (by kernel_rfl) (NoPanic.seq (NoPanic.body)) ?_
 have hS54 := hS51.drew
 revert hS54
 generalize World.drew w49 = w53
 intro hS54
 refine ⟨⟨hS54.cell 0 rfl 0 rfl, hS54.cell 0 rfl 1 rfl, hS54.cell 0 rfl 2 rfl, hS54.cell 0 rfl 3 rfl, trivial⟩, forallC ?_ (forallN)⟩
 refine segF 5 [.v (sv Ab p3.North cb), .v (sv Ac p3.East cc), .v (sv Ad p3.South cd), .v (sv Ae p3.West ce)] [68, 69, 71, 72, 73] [(68, (sv Aa p0 ca)), (69, (iv p1)), (71, (iv p1)), (72, (iv p2)), (73, (.agg #[(sv Ab p3.North cb), (sv Ac p3.East cc), (sv Ad p3.South cd), (sv Ae p3.West ce)]))] [] [0, 1, 2, 3] [(5, ⟨g5, 0, none⟩, (sv Ab p3.North cb)), (5, ⟨g5, 1, none⟩, (sv Ac p3.East cc)), (5, ⟨g5, 2, none⟩, (sv Ad p3.South cd)), (5, ⟨g5, 3, none⟩, (sv Ae p3.West ce))] (fun fb => by kernel_rfl) rfl trivial rfl ?_
 obtain ⟨t55, ht56, hf⟩ := bind_some hf
 refine WL.call (some 70) 84 #[(sv Aa p0 ca), (iv p1)] (fun fb => by kernel_rfl) (rows_All_calls _ p0 p1 Aa ca t55 _ (hS54.rd 1) ht56) (fun v w57 hR58 => ?_)
 obtain ⟨A60, c61, H62, rfl, hk_⟩ := hR58
 have hS59 := hS24.go w57 [rowO 99 encN_Row A60 c61 (tag H62 t55), poolO [nestO subN_Row H62 t55], blk g5 (.cells #[(.slice Ab p3.North.length cb), (.slice Ac p3.East.length cc), (.slice Ad p3.South.length cd), (.slice Ae p3.West.length ce)] 125 (0, 0))] (hS54.call hk_ [] [0] (fun g hg => hg.elim) (by simp) (by decide))
 refine ⟨⟨hS59.cell 2 rfl 0 rfl, hS59.cell 2 rfl 1 rfl, hS59.cell 2 rfl 2 rfl, hS59.cell 2 rfl 3 rfl, trivial⟩, ?_⟩
 refine sg 7 [] [74] [(74, (.agg #[(sv A60 t55 c61), (iv p1), (iv p2), (sv Ab p3.North cb), (sv Ac p3.East cc), (sv Ad p3.South cd), (sv Ae p3.West ce)]))] (by kernel_rfl) ?_
 refine WL.new hS59 75 [] (fun g => (pt g)) (.cells #[(sv A60 t55 c61), (iv p1), (iv p2), (sv Ab p3.North cb), (sv Ac p3.East cc), (sv Ad p3.South cd), (sv Ae p3.West ce)] 136 (0, 0)) [] (fun fb g => by kernel_rfl) trivial (fun g63 w65 hS66 => ?_)
 refine ⟨trivial, ?_⟩
 refine sg 10 [] [8, 9] [(8, (pt g63)), (9, (iv 0))] (by kernel_rfl) ?_
 refine WL.done rfl (WX.next ?_)
 refine WC.ret ?_
 injection hf with hf
 subst hf
 exact WX.ret_ [] (.tuple #[(pt g63), (iv 0)]) [] (fun fb => by kernel_rfl) trivial ⟨_, rfl, g63, A60, c61, H62, rfl, (hS66.sub [0, 1, 2] (by decide)).noR⟩
theorem fill_at_calls (p0 : List Int) (p1 : Int) (p2 : Int) (Aa : Option Addr) (ca : Nat) (r : Bool) (w : World) (hR0 : RO NoS w (rowR encInt Aa ca p0)) (hf : fill_at p0 p1 p2 = some r) :
  CallsR Try.prog 98 #[(sv Aa p0 ca), (iv p1), (iv p2)] w (fun v w' => v = (bv r) ∧ Keeps NoS w w') := by
 have hS : St NoS w w [rowR encInt Aa ca p0] [] := St.init (ro_cons hR0 (ro_nil _ _))
 refine enter 18 Try.func98 rfl Try.ntmps98 rfl ?_
 unfold fill_at at hf
 refine WC.seq (WC.region ?_)
 refine sg 1 [] [0, 1, 2] [(0, (sv Aa p0 ca)), (1, (iv p1)), (2, (iv p2))] (by kernel_rfl) ?_
 refine WL.done rfl (WX.next (WC.seq (WC.region ?_)))
 refine sg 4 [] [0, 1, 2, 10] [(0, (sv Aa p0 ca)), (1, (iv p1)), (2, (iv p2)), (10, (bv ((p0.length : Int) == 0)))] (by kernel_rfl) ?_
 obtain ⟨b3, hv4, hf⟩ := bind_some hf
 refine WL.cutV (T := Unit) 11 (fun t => [(17, (bv b3))]) (fun t => True) (fun K => ?_) ?_
 ·
  rcases br_some hv4 with ⟨h5, hv4⟩ | ⟨h5, hv4⟩
  ·
   refine WL.setB 10 h5 rfl ?_
   refine sg 11 [] [17] [(17, (bv true))] (by kernel_rfl) ?_
   injection hv4 with hv4
   subst hv4
   exact WL.toV K () [17] rfl trivial
  refine WL.setB 10 h5 rfl ?_
  refine sg 6 [] [2, 10, 11, 12] [(2, (iv p2)), (10, (bv false)), (11, (sv Aa p0 ca)), (12, (iv p1))] (by kernel_rfl) ?_
  obtain ⟨h6, hv4⟩ := as_some hv4
  refine seg 11 [.v (iv (rdD p0 p1 0))] [17] [(17, (bv ((rdD p0 p1 0) == p2)))] [.idx Aa p1 p0.length, .cell ((adr Aa).add ((p1).toNat * 1)) (iv (rdD p0 p1 0))] (fun fb => by kernel_rfl) rfl ⟨rowR.adr (hS.rd 0).1 h6.1 h6.2, rowR.cell (hS.rd 0).1 0 h6.1 h6.2 0 rfl, trivial⟩ ?_
  injection hv4 with hv4
  subst hv4
  exact WL.toV K () [17] rfl trivial
 rintro _ _
 refine sg 12 [] [6] [(6, (bv b3))] (by kernel_rfl) ?_
 refine WL.done rfl (WX.next ?_)
 refine WC.ret ?_
 injection hf with hf
 subst hf
 exact WX.ret_ [] (bv b3) [] (fun fb => by kernel_rfl) trivial ⟨_, rfl, rfl, hS.keep⟩
theorem fill_job_allows_calls (k : Nat) (p0 : Job) (p1 : Row) (p2 : Int) (ga : Nat) (Aa : Option Addr) (ca : Nat) (Ha : Nat → HF) (Ab : Option Addr) (cb : Nat) (Ac : Option Addr) (cc : Nat) (Ad : Option Addr) (cd : Nat) (Ae : Option Addr) (ce : Nat) (Af : Option Addr) (cf : Nat) (r : Bool) (w : World) (hR0 : RO NoS w (blk ga (.cells #[(sv Aa p0.rows ca), (iv p0.width), (iv p0.height), (sv Ab p0.edges.North cb), (sv Ac p0.edges.East cc), (sv Ad p0.edges.South cd), (sv Ae p0.edges.West ce)] 136 (0, 0)))) (hR1 : RO NoS w (rowR encN_Row Aa ca (tag Ha p0.rows))) (hR2 : RO NoS w (nestO subN_Row Ha p0.rows)) (hR3 : RO NoS w (rowR encInt Ab cb p0.edges.North)) (hR4 : RO NoS w (rowR encInt Ac cc p0.edges.East)) (hR5 : RO NoS w (rowR encInt Ad cd p0.edges.South)) (hR6 : RO NoS w (rowR encInt Ae ce p0.edges.West)) (hR7 : RO NoS w (rowR encInt Af cf p1.Cells)) (hf : fill_job_allows k p0 p1 p2 = some r) :
  CallsR Try.prog 94 #[(pt ga), (.agg #[(sv Af p1.Cells cf), (iv p1.South.e0), (iv p1.South.e1), (iv p1.South.e2), (iv p1.South.e3), (iv p1.South.e4), (iv p1.South.e5), (iv p1.South.e6), (iv p1.South.e7), (iv p1.North.e0), (iv p1.North.e1), (iv p1.North.e2), (iv p1.North.e3), (iv p1.North.e4), (iv p1.North.e5), (iv p1.North.e6), (iv p1.North.e7), (iv p1.West), (iv p1.East)]), (iv p2)] w (fun v w' => v = (bv r) ∧ Keeps NoS w w') := by
 have hS : St NoS w w [blk ga (.cells #[(sv Aa p0.rows ca), (iv p0.width), (iv p0.height), (sv Ab p0.edges.North cb), (sv Ac p0.edges.East cc), (sv Ad p0.edges.South cd), (sv Ae p0.edges.West ce)] 136 (0, 0)), rowR encN_Row Aa ca (tag Ha p0.rows), nestO subN_Row Ha p0.rows, rowR encInt Ab cb p0.edges.North, rowR encInt Ac cc p0.edges.East, rowR encInt Ad cd p0.edges.South, rowR encInt Ae ce p0.edges.West, rowR encInt Af cf p1.Cells] [] := St.init (ro_cons hR0 (ro_cons hR1 (ro_cons hR2 (ro_cons hR3 (ro_cons hR4 (ro_cons hR5 (ro_cons hR6 (ro_cons hR7 (ro_nil _ _)))))))))
 refine enter 77 Try.func94 rfl Try.ntmps94 rfl ?_
 unfold fill_job_allows at hf
 refine WC.seq (WC.region ?_)
 refine WL.new hS 4 [] (fun g => (pt g)) (.cells #[(sv Af p1.Cells cf), (iv p1.South.e0), (iv p1.South.e1), (iv p1.South.e2), (iv p1.South.e3), (iv p1.South.e4), (iv p1.South.e5), (iv p1.South.e6), (iv p1.South.e7), (iv p1.North.e0), (iv p1.North.e1), (iv p1.North.e2), (iv p1.North.e3), (iv p1.North.e4), (iv p1.North.e5), (iv p1.North.e6), (iv p1.North.e7), (iv p1.West), (iv p1.East)] 99 (0, 0)) [] (fun fb g => by kernel_rfl) trivial (fun g9 w10 hS11 => ?_)
 refine ⟨trivial, ?_⟩
 refine sg 2 [] [0, 2, 4] [(0, (pt ga)), (2, (iv p2)), (4, (pt g9))] (by kernel_rfl) ?_
 refine WL.done rfl (WX.next (WC.seq (WC.seq ?_)))
 refine WC.regionD ([(4, ⟨ga, 6, none⟩, (sv Ae p0.edges.West ce)), (7, ⟨g9, 17, none⟩, (iv p1.West)), (18, ⟨g9, 18, none⟩, (iv p1.East))], [0, 1, 2, 3, 4, 5, 6, 7, 9, 10, 11, 12, 13, 14, 16, 17, 18, 20, 21], [[], [0], [0, 1], [0, 1, 2], [0, 1, 2, 3], [], [], [6], [0, 1, 2, 3, 4, 5, 6, 7], [0, 1, 2, 3, 4, 5, 6, 7, 8], [0, 1, 2, 3, 4, 5, 6, 7, 8, 9], [0, 1, 2, 3, 4, 5, 6, 7, 8, 9, 10], [0, 1, 2, 3, 4, 5, 6, 7, 8, 9, 10, 11], [0, 1, 2, 3, 4, 5, 6, 7, 8, 9, 10, 11, 12], [0, 1, 2, 3, 4, 5, 6, 7, 8, 9, 10, 11, 12, 13], [0, 1, 2, 3, 4, 5, 6, 7, 8, 9, 10, 11, 12, 13, 14], [0, 1, 2, 3, 4, 5, 6, 7, 8, 9, 10], [0, 1, 2, 3, 4, 5, 6, 7, 8, 9, 10], [0, 1, 2, 3, 4, 5, 6, 7, 8, 9, 10, 17], [0, 1, 2, 3, 4, 5, 6, 7, 8, 9, 10, 11, 12, 13, 14, 15, 16, 17, 18], [0, 1, 2, 3, 4, 5, 6, 7, 8, 9, 10, 11, 12, 13, 14, 15, 16, 17, 18, 19], [0, 1, 2, 3, 4, 5, 6, 7, 8, 9, 10, 11, 12, 13, 14, 15, 16, 17, 18, 19, 20]]) [[0, 1, 2, 3, 4, 5, 6, 7, 8, 9, 10, 11, 12, 13, 14, 16, 17, 18, 15, 19, 20, 21]] (by kernel_rfl) (by kernel_rfl) (NoPanic.seq (NoPanic.seq (NoPanic.body))) ?_
 have hS13 := hS11.drew
 revert hS13
 generalize World.drew w10 = w12
 intro hS13
 refine ⟨⟨blk_cell (hS13.rd 0).1 6 rfl, hS13.cell 0 rfl 17 rfl, hS13.cell 0 rfl 18 rfl, trivial⟩, forallC ?_ (forallN)⟩
 refine segF 8 [.v (sv Ae p0.edges.West ce), .v (iv p1.West)] [0, 2, 4, 12, 13, 15] [(0, (pt ga)), (2, (iv p2)), (4, (pt g9)), (12, (sv Ae p0.edges.West ce)), (13, (iv p2)), (15, (iv p1.West))] [] [0, 1] [(4, ⟨ga, 6, none⟩, (sv Ae p0.edges.West ce)), (7, ⟨g9, 17, none⟩, (iv p1.West))] (fun fb => by kernel_rfl) rfl trivial rfl ?_
 obtain ⟨t14, ht15, hf⟩ := bind_some hf
 refine WL.call (some 16) 98 #[(sv Ae p0.edges.West ce), (iv p2), (iv p1.West)] (fun fb => by kernel_rfl) (fill_at_calls p0.edges.West p2 p1.West Ae ce t14 _ (hS13.rd 6) ht15) (fun v w16 hR17 => ?_)
 obtain ⟨rfl, hk_⟩ := hR17
 have hS18 := hS13.keepN hk_
 refine ⟨⟨hS18.cell 0 rfl 18 rfl, trivial⟩, ?_⟩
 refine sg 11 [] [0, 2, 4, 18] [(0, (pt ga)), (2, (iv p2)), (4, (pt g9)), (18, (bv (!t14)))] (by kernel_rfl) ?_
 obtain ⟨x19, hx20, hf⟩ := bind_some hf
 refine WL.cutW (T := Bool) 22 (fun t => [(0, (pt ga)), (2, (iv p2)), (4, (pt g9)), (29, (bv t))]) (fun t w1 => (St NoS w w1 [blk ga (.cells #[(sv Aa p0.rows ca), (iv p0.width), (iv p0.height), (sv Ab p0.edges.North cb), (sv Ac p0.edges.East cc), (sv Ad p0.edges.South cd), (sv Ae p0.edges.West ce)] 136 (0, 0)), rowR encN_Row Aa ca (tag Ha p0.rows), nestO subN_Row Ha p0.rows, rowR encInt Ab cb p0.edges.North, rowR encInt Ac cc p0.edges.East, rowR encInt Ad cd p0.edges.South, rowR encInt Ae ce p0.edges.West, rowR encInt Af cf p1.Cells] [blk g9 (.cells #[(sv Af p1.Cells cf), (iv p1.South.e0), (iv p1.South.e1), (iv p1.South.e2), (iv p1.South.e3), (iv p1.South.e4), (iv p1.South.e5), (iv p1.South.e6), (iv p1.South.e7), (iv p1.North.e0), (iv p1.North.e1), (iv p1.North.e2), (iv p1.North.e3), (iv p1.North.e4), (iv p1.North.e5), (iv p1.North.e6), (iv p1.North.e7), (iv p1.West), (iv p1.East)] 99 (0, 0))] ∧ x19 = t) ∧ CellsOK [] w1) (fun K => ?_) ?_
 ·
  rcases br_some hx20 with ⟨h21, hx20⟩ | ⟨h21, hx20⟩
  ·
   refine WL.setB 18 h21 rfl ?_
   refine sg 22 [] [0, 2, 4, 29] [(0, (pt ga)), (2, (iv p2)), (4, (pt g9)), (29, (bv true))] (by kernel_rfl) ?_
   injection hx20 with hx20
   exact WL.to K true [0, 2, 4, 29] rfl ⟨⟨(hS18.subR [0, 1, 2, 3, 4, 5, 6, 7]).sub [0] (by decide), hx20.symm⟩, trivial⟩
  refine WL.setB 18 h21 rfl ?_
  refine segF 19 [.v (iv p1.East), .v (sv Ac p0.edges.East cc)] [0, 2, 4, 18, 23, 24, 26] [(0, (pt ga)), (2, (iv p2)), (4, (pt g9)), (18, (bv false)), (23, (sv Ac p0.edges.East cc)), (24, (iv p2)), (26, (iv p1.East))] [.cell ⟨ga, 4, none⟩ (sv Ac p0.edges.East cc)] [2] [(18, ⟨g9, 18, none⟩, (iv p1.East))] (fun fb => by kernel_rfl) rfl ⟨blk_cell (hS18.rd 0).1 4 rfl, trivial⟩ rfl ?_
  obtain ⟨t22, ht23, hx20⟩ := bind_some hx20
  refine WL.call (some 27) 98 #[(sv Ac p0.edges.East cc), (iv p2), (iv p1.East)] (fun fb => by kernel_rfl) (fill_at_calls p0.edges.East p2 p1.East Ac cc t22 _ (hS18.rd 4) ht23) (fun v w24 hR25 => ?_)
  obtain ⟨rfl, hk_⟩ := hR25
  have hS26 := hS18.keepN hk_
  refine ⟨trivial, ?_⟩
  refine sg 22 [] [0, 2, 4, 29] [(0, (pt ga)), (2, (iv p2)), (4, (pt g9)), (29, (bv (!t22)))] (by kernel_rfl) ?_
  injection hx20 with hx20
  exact WL.to K (!t22) [0, 2, 4, 29] rfl ⟨⟨(hS26.subR [0, 1, 2, 3, 4, 5, 6, 7]).sub [0] (by decide), hx20.symm⟩, trivial⟩
 rintro y27 w29 ⟨⟨hS30, hq28⟩, hF31⟩
 subst hq28
 refine WL.done rfl (WX.next ?_)
 rcases br_some hf with ⟨h32, hf⟩ | ⟨h32, hf⟩
 ·refine WC.condT2 (fun fb => by kernel_rfl) h32 ?_
  refine WC.seq (WC.region ?_)
  refine sg 1 [] [6] [(6, (bv false))] (by kernel_rfl) ?_
  refine WL.done rfl (WX.next ?_)
  refine WC.ret ?_
  injection hf with hf
  subst hf
  exact WX.thenR (WX.ret_ [] (bv false) [] (fun fb => by kernel_rfl) trivial ⟨_, rfl, rfl, hS30.keep⟩)
 refine WC.condF2 (fun fb => by kernel_rfl) h32 ?_
 refine WC.skip (WX.next (WC.seq (WC.seq (WC.region ?_))))
 refine seg 5 [.v (iv p0.width)] [0, 2, 4, 33, 34] [(0, (pt ga)), (2, (iv p2)), (4, (pt g9)), (33, (iv p0.width)), (34, (iv 0))] [.cell ⟨ga, 1, none⟩ (iv p0.width)] (fun fb => by kernel_rfl) rfl ⟨blk_cell (hS30.rd 0).1 1 rfl, trivial⟩ ?_
 refine WL.done rfl (WX.next ?_)
 obtain ⟨x34, hx35, hf⟩ := bind_some hf
 refine WC.cutN (T := Unit) (fun t => []) (fun t w1 => St NoS w w1 [blk ga (.cells #[(sv Aa p0.rows ca), (iv p0.width), (iv p0.height), (sv Ab p0.edges.North cb), (sv Ac p0.edges.East cc), (sv Ad p0.edges.South cd), (sv Ae p0.edges.West ce)] 136 (0, 0)), rowR encN_Row Aa ca (tag Ha p0.rows), nestO subN_Row Ha p0.rows, rowR encInt Ab cb p0.edges.North, rowR encInt Ac cc p0.edges.East, rowR encInt Ad cd p0.edges.South, rowR encInt Ae ce p0.edges.West, rowR encInt Af cf p1.Cells] [] ∧ x34 = .inr t) (fun Kx34 => ?_) ?_
 ·
  refine WC.block ?_
  refine WC.loop (T := Int) (fun t => [(0, (pt ga)), (2, (iv p2)), (4, (pt g9)), (33, (iv p0.width)), (34, (iv t))]) (fun n t w1 => St NoS w w1 [blk ga (.cells #[(sv Aa p0.rows ca), (iv p0.width), (iv p0.height), (sv Ab p0.edges.North cb), (sv Ac p0.edges.East cc), (sv Ad p0.edges.South cd), (sv Ae p0.edges.West ce)] 136 (0, 0)), rowR encN_Row Aa ca (tag Ha p0.rows), nestO subN_Row Ha p0.rows, rowR encInt Ab cb p0.edges.North, rowR encInt Ac cc p0.edges.East, rowR encInt Ad cd p0.edges.South, rowR encInt Ae ce p0.edges.West, rowR encInt Af cf p1.Cells] [blk g9 (.cells #[(sv Af p1.Cells cf), (iv p1.South.e0), (iv p1.South.e1), (iv p1.South.e2), (iv p1.South.e3), (iv p1.South.e4), (iv p1.South.e5), (iv p1.South.e6), (iv p1.South.e7), (iv p1.North.e0), (iv p1.North.e1), (iv p1.North.e2), (iv p1.North.e3), (iv p1.North.e4), (iv p1.North.e5), (iv p1.North.e6), (iv p1.North.e7), (iv p1.West), (iv p1.East)] 99 (0, 0))] ∧ fill_job_allows.l0 n t p0 p1 p2 = some x34) k 0 [0, 2, 4, 33, 34] rfl ⟨(hS30.subR [0, 1, 2, 3, 4, 5, 6, 7]).sub [0] (by decide), hx35⟩ ?_
  rintro k36 x33 w37 ⟨hS38, hl39⟩
  cases k36 with
  | zero => rw [fill_job_allows.l0] at hl39; cases hl39
  | succ k36 =>
   rw [fill_job_allows.l0] at hl39
   refine WC.seq (WC.region ?_)
   refine sg 1 [] [0, 2, 4, 33, 34, 35] [(0, (pt ga)), (2, (iv p2)), (4, (pt g9)), (33, (iv p0.width)), (34, (iv x33)), (35, (bv (decide (x33 < p0.width))))] (by kernel_rfl) ?_
   refine WL.done rfl (WX.next (WC.seq ?_))
   rcases br_some hl39 with ⟨h40, hl39⟩ | ⟨h40, hl39⟩
   ·refine WC.condT2 (fun fb => by kernel_rfl) h40 ?_
    refine WC.skip (WX.next (WC.seq (WC.block (WC.seq (WC.region ?_)))))
    refine sg 2 [] [0, 2, 4, 7, 33, 34] [(0, (pt ga)), (2, (iv p2)), (4, (pt g9)), (7, (iv x33)), (33, (iv p0.width)), (34, (iv x33))] (by kernel_rfl) ?_
    refine WL.done rfl (WX.next (WC.seq ?_))
    obtain ⟨x41, hx42, hl39⟩ := bind_some hl39
    refine WC.cutN (T := Bool) (fun t => [(0, (pt ga)), (2, (iv p2)), (4, (pt g9)), (33, (iv p0.width)), (34, (iv x33)), (75, (bv t))]) (fun t w1 => St NoS w w1 [blk ga (.cells #[(sv Aa p0.rows ca), (iv p0.width), (iv p0.height), (sv Ab p0.edges.North cb), (sv Ac p0.edges.East cc), (sv Ad p0.edges.South cd), (sv Ae p0.edges.West ce)] 136 (0, 0)), rowR encN_Row Aa ca (tag Ha p0.rows), nestO subN_Row Ha p0.rows, rowR encInt Ab cb p0.edges.North, rowR encInt Ac cc p0.edges.East, rowR encInt Ad cd p0.edges.South, rowR encInt Ae ce p0.edges.West, rowR encInt Af cf p1.Cells] [blk g9 (.cells #[(sv Af p1.Cells cf), (iv p1.South.e0), (iv p1.South.e1), (iv p1.South.e2), (iv p1.South.e3), (iv p1.South.e4), (iv p1.South.e5), (iv p1.South.e6), (iv p1.South.e7), (iv p1.North.e0), (iv p1.North.e1), (iv p1.North.e2), (iv p1.North.e3), (iv p1.North.e4), (iv p1.North.e5), (iv p1.North.e6), (iv p1.North.e7), (iv p1.West), (iv p1.East)] 99 (0, 0))] ∧ x41 = t) (fun Kx41 => ?_) ?_
    ·
     rcases br_some hx42 with ⟨h43, hx42⟩ | ⟨h43, hx42⟩
     ·
      rcases br_some hx42 with ⟨h44, hx42⟩ | ⟨h44, hx42⟩
      ·
       obtain ⟨h47, hx42⟩ := as_some hx42
       refine WC.regionD ([(7, ⟨ga, 5, none⟩, (sv Ad p0.edges.South cd)), (12, (flatA ⟨g9, 1, none⟩ (x33.toNat * 1)), (iv (A8_Int.get p1.South x33)))], [0, 1, 2, 3, 4, 5, 6, 7, 8, 9, 10, 11, 12, 14, 15, 16, 17, 18, 19, 20, 22, 23, 24, 25, 26, 27, 28, 30, 31, 32, 33, 36, 37, 38], [[], [0], [0, 1], [0, 1, 2], [0, 1, 2, 3], [0, 1, 2, 3, 4], [0, 1, 2, 3, 4, 5], [0, 1, 2, 3, 4, 5, 6], [0, 1, 2], [0, 1, 2], [0, 1, 2], [0, 1, 2, 9, 10], [0, 1, 2, 9, 10, 11], [0, 1, 2, 3, 4, 5, 6, 7, 8, 9, 10, 11, 12], [0, 1, 2, 3, 4, 5, 6, 7, 8, 9, 10, 11, 12, 13], [0, 1, 2, 3, 4, 5, 6, 7, 8, 9, 10, 11, 12, 13, 14], [0, 1, 2, 3, 4, 5, 6, 7, 8, 9, 10, 11, 12, 13, 14, 15], [0, 1, 2, 3, 4, 5, 6, 7, 8, 9, 10, 11, 12, 13, 14, 15, 16], [0, 1, 2, 3, 4, 5, 6, 7, 8, 9, 10, 11, 12, 13, 14, 15, 16], [0, 1, 2, 3, 4, 5, 6, 7, 8, 9, 10, 11, 12, 13, 14, 15, 16, 18], [0, 1, 2, 3, 4, 5, 6, 7, 8, 9, 10, 11, 12, 13, 14, 15, 16, 18, 19], [0, 1, 2, 3, 4, 5, 6, 7, 8, 9, 10, 11, 12, 13, 14, 15, 16, 18, 19, 20], [0, 1, 2, 3, 4, 5, 6, 7, 8, 9, 10, 11, 12, 13, 14, 15, 16, 18, 19, 20, 21], [0, 1, 2, 3, 4, 5, 6, 7, 8, 9, 10, 11, 12, 13, 14, 15, 16, 17, 18, 19, 20, 21, 22], [0, 1, 2, 3, 4, 5, 6, 7, 8, 9, 10, 11, 12, 13, 14, 15, 16, 17, 18, 19, 20, 21, 22, 23], [0, 1, 2, 3, 4, 5, 6, 7, 8, 9, 10, 11, 12, 13, 14, 15, 16, 17, 18, 19, 20, 21, 22, 23, 24], [0, 1, 2, 3, 4, 5, 6, 7, 8, 9, 10, 11, 12, 13, 14, 15, 16, 17, 18, 19, 20, 21, 22, 23, 24, 25], [0, 1, 2, 3, 4, 5, 6, 7, 8, 9, 10, 11, 12, 13, 14, 15, 16, 17, 18, 19, 20, 21, 22, 23, 24, 25, 26], [0, 1, 2, 3, 4, 5, 6, 7, 8, 9, 10, 11, 12, 13, 14, 15, 16, 17, 18, 19, 20, 21, 22, 23, 24, 25, 26, 27], [0, 1, 2, 3, 4, 5, 6, 7, 8, 9, 10, 11, 12, 13, 14, 15, 16, 17, 18, 19, 20, 21, 22, 23, 24, 25, 26, 27, 28], [0, 1, 2, 3, 4, 5, 6, 7, 8, 9, 10, 11, 12, 13, 14, 15, 16, 17, 18, 19, 20, 21, 22, 23, 24], [0, 1, 2, 3, 4, 5, 6, 7, 8, 9, 10, 11, 12, 13, 14, 15, 16, 17, 18, 19, 20, 21, 22, 23, 24], [0, 1, 2, 3, 4, 5, 6, 7, 8, 9, 10, 11, 12, 13, 14, 15, 16, 17, 18, 19, 20, 21, 22, 23, 24], [0, 1, 2, 3, 4, 5, 6, 7, 8, 9, 10, 11, 12, 13, 14, 15, 16, 17, 18, 19, 20, 21, 22, 23, 24, 31, 32], [0, 1, 2, 3, 4, 5, 6, 7, 8, 9, 10, 11, 12, 13, 14, 15, 16, 17, 18, 19, 20, 21, 22, 23, 24, 31, 32, 33], [0, 1, 2, 3, 4, 5, 6, 7, 8, 9, 10, 11, 12, 13, 14, 15, 16, 17, 18, 19, 20, 21, 22, 23, 24, 25, 26, 27, 28, 29, 30, 31, 32, 33, 34], [0, 1, 2, 3, 4, 5, 6, 7, 8, 9, 10, 11, 12, 13, 14, 15, 16, 17, 18, 19, 20, 21, 22, 23, 24, 25, 26, 27, 28, 29, 30, 31, 32, 33, 34, 35], [0, 1, 2, 3, 4, 5, 6, 7, 8, 9, 10, 11, 12, 13, 14, 15, 16, 17, 18, 19, 20, 21, 22, 23, 24, 25, 26, 27, 28, 29, 30, 31, 32, 33, 34, 35, 36], [0, 1, 2, 3, 4, 5, 6, 7, 8, 9, 10, 11, 12, 13, 14, 15, 16, 17, 18, 19, 20, 21, 22, 23, 24, 25, 26, 27, 28, 29, 30, 31, 32, 33, 34, 35, 36, 37]]) [[0, 1, 2, 3, 4, 5, 6, 7, 8, 9, 10, 11, 12, 13, 14, 15, 16, 17, 18, 19, 20, 21, 22, 23, 24, 25, 26, 27, 28, 30, 31, 32, 33, 29, 34, 35, 36, 37, 38], [0, 1, 2, 3, 4, 5, 6, 7, 8, 9, 10, 11, 12, 13, 14, 15, 16, 17, 18, 19, 20, 21, 22, 23, 24, 25, 26, 27, 28, 30, 31, 32, 33, 34, 29, 35, 36, 37, 38]] (by kernel_rfl) (by kernel_rfl) (NoPanic.seq (NoPanic.block (NoPanic.seq (NoPanic.seq (NoPanic.block (NoPanic.seq (NoPanic.body))))))) ?_
       have hS46 := hS38.drew
       revert hS46
       generalize World.drew w37 = w45
       intro hS46
       refine ⟨⟨blk_cell (hS46.rd 0).1 5 rfl, hS46.cell 0 rfl _ (cases8 (Q := fun z_ => (#[(sv Af p1.Cells cf), (iv p1.South.e0), (iv p1.South.e1), (iv p1.South.e2), (iv p1.South.e3), (iv p1.South.e4), (iv p1.South.e5), (iv p1.South.e6), (iv p1.South.e7), (iv p1.North.e0), (iv p1.North.e1), (iv p1.North.e2), (iv p1.North.e3), (iv p1.North.e4), (iv p1.North.e5), (iv p1.North.e6), (iv p1.North.e7), (iv p1.West), (iv p1.East)] : Array Value)[1 + z_.toNat * 1]? = some (iv (A8_Int.get p1.South z_))) h47 (by kernel_rfl) (by kernel_rfl) (by kernel_rfl) (by kernel_rfl) (by kernel_rfl) (by kernel_rfl) (by kernel_rfl) (by kernel_rfl)), trivial⟩, forallC ?_ (forallC ?_ (forallN))⟩
       ·
        refine sg 3 [] [0, 2, 4, 7, 33, 34, 39] [(0, (pt ga)), (2, (iv p2)), (4, (pt g9)), (7, (iv x33)), (33, (iv p0.width)), (34, (iv x33)), (39, (bv (p2 == 0)))] (by kernel_rfl) ?_
        refine WL.setB 39 h43 rfl ?_
        refine segF 13 [.v (sv Ad p0.edges.South cd), .v (iv (A8_Int.get p1.South x33))] [0, 2, 4, 7, 33, 34, 39, 44, 45, 49] [(0, (pt ga)), (2, (iv p2)), (4, (pt g9)), (7, (iv x33)), (33, (iv p0.width)), (34, (iv x33)), (39, (bv true)), (44, (sv Ad p0.edges.South cd)), (45, (iv x33)), (49, (iv (A8_Int.get p1.South x33)))] [.idx (some ⟨0, 0, none⟩) x33 8] [0, 1] [(7, ⟨ga, 5, none⟩, (sv Ad p0.edges.South cd)), (12, (flatA ⟨g9, 1, none⟩ (x33.toNat * 1)), (iv (A8_Int.get p1.South x33)))] (fun fb => by kernel_rfl) rfl ⟨⟨h47.1, h47.2, rfl⟩, trivial⟩ rfl ?_
        obtain ⟨t48, ht49, hx42⟩ := bind_some hx42
        refine WL.call (some 50) 98 #[(sv Ad p0.edges.South cd), (iv x33), (iv (A8_Int.get p1.South x33))] (fun fb => by kernel_rfl) (fill_at_calls p0.edges.South x33 (A8_Int.get p1.South x33) Ad cd t48 _ (hS46.rd 5) ht49) (fun v w50 hR51 => ?_)
        obtain ⟨rfl, hk_⟩ := hR51
        have hS52 := hS46.keepN hk_
        refine ⟨trivial, ?_⟩
        refine sg 17 [] [0, 2, 4, 7, 33, 34, 53] [(0, (pt ga)), (2, (iv p2)), (4, (pt g9)), (7, (iv x33)), (33, (iv p0.width)), (34, (iv x33)), (53, (bv (!t48)))] (by kernel_rfl) ?_
        obtain ⟨x53, hx54, hx42⟩ := bind_some hx42
        refine WL.cutW (T := Bool) 39 (fun t => [(0, (pt ga)), (2, (iv p2)), (4, (pt g9)), (33, (iv p0.width)), (34, (iv x33)), (75, (bv t))]) (fun t w1 => (St NoS w w1 [blk ga (.cells #[(sv Aa p0.rows ca), (iv p0.width), (iv p0.height), (sv Ab p0.edges.North cb), (sv Ac p0.edges.East cc), (sv Ad p0.edges.South cd), (sv Ae p0.edges.West ce)] 136 (0, 0)), rowR encN_Row Aa ca (tag Ha p0.rows), nestO subN_Row Ha p0.rows, rowR encInt Ab cb p0.edges.North, rowR encInt Ac cc p0.edges.East, rowR encInt Ad cd p0.edges.South, rowR encInt Ae ce p0.edges.West, rowR encInt Af cf p1.Cells] [blk g9 (.cells #[(sv Af p1.Cells cf), (iv p1.South.e0), (iv p1.South.e1), (iv p1.South.e2), (iv p1.South.e3), (iv p1.South.e4), (iv p1.South.e5), (iv p1.South.e6), (iv p1.South.e7), (iv p1.North.e0), (iv p1.North.e1), (iv p1.North.e2), (iv p1.North.e3), (iv p1.North.e4), (iv p1.North.e5), (iv p1.North.e6), (iv p1.North.e7), (iv p1.West), (iv p1.East)] 99 (0, 0))] ∧ x53 = t) ∧ CellsOK [] w1) (fun K => ?_) ?_
        ·
         rcases br_some hx54 with ⟨h55, hx54⟩ | ⟨h55, hx54⟩
         ·
          refine WL.setB 53 h55 rfl ?_
          refine sg 39 [] [0, 2, 4, 33, 34, 75] [(0, (pt ga)), (2, (iv p2)), (4, (pt g9)), (33, (iv p0.width)), (34, (iv x33)), (75, (bv true))] (by kernel_rfl) ?_
          injection hx54 with hx54
          exact WL.to K true [0, 2, 4, 33, 34, 75] rfl ⟨⟨(hS52.subR [0, 1, 2, 3, 4, 5, 6, 7]).sub [0] (by decide), hx54.symm⟩, trivial⟩
         refine WL.setB 53 h55 rfl ?_
         refine seg 25 [.v (iv p0.height)] [0, 2, 4, 7, 33, 34, 53, 61] [(0, (pt ga)), (2, (iv p2)), (4, (pt g9)), (7, (iv x33)), (33, (iv p0.width)), (34, (iv x33)), (53, (bv false)), (61, (bv (p2 == (w64 (p0.height - 1)))))] [.cell ⟨ga, 2, none⟩ (iv p0.height)] (fun fb => by kernel_rfl) rfl ⟨blk_cell (hS52.rd 0).1 2 rfl, trivial⟩ ?_
         refine WL.setB 61 h44 rfl ?_
         refine seg 35 [.v (sv Ab p0.edges.North cb), .v (iv (A8_Int.get p1.North x33))] [0, 2, 4, 33, 34, 53, 61, 66, 67, 71] [(0, (pt ga)), (2, (iv p2)), (4, (pt g9)), (33, (iv p0.width)), (34, (iv x33)), (53, (bv false)), (61, (bv true)), (66, (sv Ab p0.edges.North cb)), (67, (iv x33)), (71, (iv (A8_Int.get p1.North x33)))] [.idx (some ⟨0, 0, none⟩) x33 8, .cell ⟨ga, 3, none⟩ (sv Ab p0.edges.North cb), .cell (flatA ⟨g9, 9, none⟩ (x33.toNat * 1)) (iv (A8_Int.get p1.North x33))] (fun fb => by kernel_rfl) rfl ⟨⟨h47.1, h47.2, rfl⟩, blk_cell (hS52.rd 0).1 3 rfl, hS52.cell 0 rfl _ (cases8 (Q := fun z_ => (#[(sv Af p1.Cells cf), (iv p1.South.e0), (iv p1.South.e1), (iv p1.South.e2), (iv p1.South.e3), (iv p1.South.e4), (iv p1.South.e5), (iv p1.South.e6), (iv p1.South.e7), (iv p1.North.e0), (iv p1.North.e1), (iv p1.North.e2), (iv p1.North.e3), (iv p1.North.e4), (iv p1.North.e5), (iv p1.North.e6), (iv p1.North.e7), (iv p1.West), (iv p1.East)] : Array Value)[9 + z_.toNat * 1]? = some (iv (A8_Int.get p1.North z_))) h47 (by kernel_rfl) (by kernel_rfl) (by kernel_rfl) (by kernel_rfl) (by kernel_rfl) (by kernel_rfl) (by kernel_rfl) (by kernel_rfl)), trivial⟩ ?_
         obtain ⟨t56, ht57, hx54⟩ := bind_some hx54
         refine WL.call (some 72) 98 #[(sv Ab p0.edges.North cb), (iv x33), (iv (A8_Int.get p1.North x33))] (fun fb => by kernel_rfl) (fill_at_calls p0.edges.North x33 (A8_Int.get p1.North x33) Ab cb t56 _ (hS52.rd 3) ht57) (fun v w58 hR59 => ?_)
         obtain ⟨rfl, hk_⟩ := hR59
         have hS60 := hS52.keepN hk_
         refine ⟨trivial, ?_⟩
         refine sg 39 [] [0, 2, 4, 33, 34, 75] [(0, (pt ga)), (2, (iv p2)), (4, (pt g9)), (33, (iv p0.width)), (34, (iv x33)), (75, (bv (!t56)))] (by kernel_rfl) ?_
         injection hx54 with hx54
         exact WL.to K (!t56) [0, 2, 4, 33, 34, 75] rfl ⟨⟨(hS60.subR [0, 1, 2, 3, 4, 5, 6, 7]).sub [0] (by decide), hx54.symm⟩, trivial⟩
        rintro y61 w63 ⟨⟨hS65, hq62⟩, hF66⟩
        subst hq62
        refine WL.done rfl ?_
        injection hx42 with hx42
        exact WX.to Kx41 x53 [0, 2, 4, 33, 34, 75] rfl ⟨(hS65.subR [0, 1, 2, 3, 4, 5, 6, 7]).sub [0] (by decide), hx42.symm⟩
       refine sg 3 [] [0, 2, 4, 7, 33, 34, 39] [(0, (pt ga)), (2, (iv p2)), (4, (pt g9)), (7, (iv x33)), (33, (iv p0.width)), (34, (iv x33)), (39, (bv (p2 == 0)))] (by kernel_rfl) ?_
       refine WL.setB 39 h43 rfl ?_
       refine segF 13 [.v (sv Ad p0.edges.South cd), .v (iv (A8_Int.get p1.South x33))] [0, 2, 4, 7, 33, 34, 39, 44, 45, 49] [(0, (pt ga)), (2, (iv p2)), (4, (pt g9)), (7, (iv x33)), (33, (iv p0.width)), (34, (iv x33)), (39, (bv true)), (44, (sv Ad p0.edges.South cd)), (45, (iv x33)), (49, (iv (A8_Int.get p1.South x33)))] [.idx (some ⟨0, 0, none⟩) x33 8] [0, 1] [(7, ⟨ga, 5, none⟩, (sv Ad p0.edges.South cd)), (12, (flatA ⟨g9, 1, none⟩ (x33.toNat * 1)), (iv (A8_Int.get p1.South x33)))] (fun fb => by kernel_rfl) rfl ⟨⟨h47.1, h47.2, rfl⟩, trivial⟩ rfl ?_
       obtain ⟨t67, ht68, hx42⟩ := bind_some hx42
       refine WL.call (some 50) 98 #[(sv Ad p0.edges.South cd), (iv x33), (iv (A8_Int.get p1.South x33))] (fun fb => by kernel_rfl) (fill_at_calls p0.edges.South x33 (A8_Int.get p1.South x33) Ad cd t67 _ (hS46.rd 5) ht68) (fun v w69 hR70 => ?_)
       obtain ⟨rfl, hk_⟩ := hR70
       have hS71 := hS46.keepN hk_
       refine ⟨trivial, ?_⟩
       refine sg 17 [] [0, 2, 4, 7, 33, 34, 53] [(0, (pt ga)), (2, (iv p2)), (4, (pt g9)), (7, (iv x33)), (33, (iv p0.width)), (34, (iv x33)), (53, (bv (!t67)))] (by kernel_rfl) ?_
       obtain ⟨x72, hx73, hx42⟩ := bind_some hx42
       refine WL.cutW (T := Bool) 39 (fun t => [(0, (pt ga)), (2, (iv p2)), (4, (pt g9)), (33, (iv p0.width)), (34, (iv x33)), (75, (bv t))]) (fun t w1 => (St NoS w w1 [blk ga (.cells #[(sv Aa p0.rows ca), (iv p0.width), (iv p0.height), (sv Ab p0.edges.North cb), (sv Ac p0.edges.East cc), (sv Ad p0.edges.South cd), (sv Ae p0.edges.West ce)] 136 (0, 0)), rowR encN_Row Aa ca (tag Ha p0.rows), nestO subN_Row Ha p0.rows, rowR encInt Ab cb p0.edges.North, rowR encInt Ac cc p0.edges.East, rowR encInt Ad cd p0.edges.South, rowR encInt Ae ce p0.edges.West, rowR encInt Af cf p1.Cells] [blk g9 (.cells #[(sv Af p1.Cells cf), (iv p1.South.e0), (iv p1.South.e1), (iv p1.South.e2), (iv p1.South.e3), (iv p1.South.e4), (iv p1.South.e5), (iv p1.South.e6), (iv p1.South.e7), (iv p1.North.e0), (iv p1.North.e1), (iv p1.North.e2), (iv p1.North.e3), (iv p1.North.e4), (iv p1.North.e5), (iv p1.North.e6), (iv p1.North.e7), (iv p1.West), (iv p1.East)] 99 (0, 0))] ∧ x72 = t) ∧ CellsOK [] w1) (fun K => ?_) ?_
       ·
        rcases br_some hx73 with ⟨h74, hx73⟩ | ⟨h74, hx73⟩
        ·
         refine WL.setB 53 h74 rfl ?_
         refine sg 39 [] [0, 2, 4, 33, 34, 75] [(0, (pt ga)), (2, (iv p2)), (4, (pt g9)), (33, (iv p0.width)), (34, (iv x33)), (75, (bv true))] (by kernel_rfl) ?_
         injection hx73 with hx73
         exact WL.to K true [0, 2, 4, 33, 34, 75] rfl ⟨⟨(hS71.subR [0, 1, 2, 3, 4, 5, 6, 7]).sub [0] (by decide), hx73.symm⟩, trivial⟩
        refine WL.setB 53 h74 rfl ?_
        refine seg 25 [.v (iv p0.height)] [0, 2, 4, 7, 33, 34, 53, 61] [(0, (pt ga)), (2, (iv p2)), (4, (pt g9)), (7, (iv x33)), (33, (iv p0.width)), (34, (iv x33)), (53, (bv false)), (61, (bv (p2 == (w64 (p0.height - 1)))))] [.cell ⟨ga, 2, none⟩ (iv p0.height)] (fun fb => by kernel_rfl) rfl ⟨blk_cell (hS71.rd 0).1 2 rfl, trivial⟩ ?_
        refine WL.setB 61 h44 rfl ?_
        refine seg 35 [.v (iv (A8_Int.get p1.North x33)), .v (sv Ab p0.edges.North cb)] [0, 2, 4, 33, 34, 53, 61, 66, 67, 71] [(0, (pt ga)), (2, (iv p2)), (4, (pt g9)), (33, (iv p0.width)), (34, (iv x33)), (53, (bv false)), (61, (bv true)), (66, (sv Ab p0.edges.North cb)), (67, (iv x33)), (71, (iv (A8_Int.get p1.North x33)))] [.idx (some ⟨0, 0, none⟩) x33 8, .cell (flatA ⟨g9, 9, none⟩ (x33.toNat * 1)) (iv (A8_Int.get p1.North x33)), .cell ⟨ga, 3, none⟩ (sv Ab p0.edges.North cb)] (fun fb => by kernel_rfl) rfl ⟨⟨h47.1, h47.2, rfl⟩, hS71.cell 0 rfl _ (cases8 (Q := fun z_ => (#[(sv Af p1.Cells cf), (iv p1.South.e0), (iv p1.South.e1), (iv p1.South.e2), (iv p1.South.e3), (iv p1.South.e4), (iv p1.South.e5), (iv p1.South.e6), (iv p1.South.e7), (iv p1.North.e0), (iv p1.North.e1), (iv p1.North.e2), (iv p1.North.e3), (iv p1.North.e4), (iv p1.North.e5), (iv p1.North.e6), (iv p1.North.e7), (iv p1.West), (iv p1.East)] : Array Value)[9 + z_.toNat * 1]? = some (iv (A8_Int.get p1.North z_))) h47 (by kernel_rfl) (by kernel_rfl) (by kernel_rfl) (by kernel_rfl) (by kernel_rfl) (by kernel_rfl) (by kernel_rfl) (by kernel_rfl)), blk_cell (hS71.rd 0).1 3 rfl, trivial⟩ ?_
        obtain ⟨t75, ht76, hx73⟩ := bind_some hx73
        refine WL.call (some 72) 98 #[(sv Ab p0.edges.North cb), (iv x33), (iv (A8_Int.get p1.North x33))] (fun fb => by kernel_rfl) (fill_at_calls p0.edges.North x33 (A8_Int.get p1.North x33) Ab cb t75 _ (hS71.rd 3) ht76) (fun v w77 hR78 => ?_)
        obtain ⟨rfl, hk_⟩ := hR78
        have hS79 := hS71.keepN hk_
        refine ⟨trivial, ?_⟩
        refine sg 39 [] [0, 2, 4, 33, 34, 75] [(0, (pt ga)), (2, (iv p2)), (4, (pt g9)), (33, (iv p0.width)), (34, (iv x33)), (75, (bv (!t75)))] (by kernel_rfl) ?_
        injection hx73 with hx73
        exact WL.to K (!t75) [0, 2, 4, 33, 34, 75] rfl ⟨⟨(hS79.subR [0, 1, 2, 3, 4, 5, 6, 7]).sub [0] (by decide), hx73.symm⟩, trivial⟩
       rintro y80 w82 ⟨⟨hS83, hq81⟩, hF84⟩
       subst hq81
       refine WL.done rfl ?_
       injection hx42 with hx42
       exact WX.to Kx41 x72 [0, 2, 4, 33, 34, 75] rfl ⟨(hS83.subR [0, 1, 2, 3, 4, 5, 6, 7]).sub [0] (by decide), hx42.symm⟩
      obtain ⟨h87, hx42⟩ := as_some hx42
      refine WC.regionD ([(7, ⟨ga, 5, none⟩, (sv Ad p0.edges.South cd)), (12, (flatA ⟨g9, 1, none⟩ (x33.toNat * 1)), (iv (A8_Int.get p1.South x33)))], [0, 1, 2, 3, 4, 5, 6, 7, 8, 9, 10, 11, 12, 14, 15, 16, 17, 18, 19, 20, 22, 23, 24, 25, 26, 27, 28, 30, 31, 32, 33, 36, 37, 38], [[], [0], [0, 1], [0, 1, 2], [0, 1, 2, 3], [0, 1, 2, 3, 4], [0, 1, 2, 3, 4, 5], [0, 1, 2, 3, 4, 5, 6], [0, 1, 2], [0, 1, 2], [0, 1, 2], [0, 1, 2, 9, 10], [0, 1, 2, 9, 10, 11], [0, 1, 2, 3, 4, 5, 6, 7, 8, 9, 10, 11, 12], [0, 1, 2, 3, 4, 5, 6, 7, 8, 9, 10, 11, 12, 13], [0, 1, 2, 3, 4, 5, 6, 7, 8, 9, 10, 11, 12, 13, 14], [0, 1, 2, 3, 4, 5, 6, 7, 8, 9, 10, 11, 12, 13, 14, 15], [0, 1, 2, 3, 4, 5, 6, 7, 8, 9, 10, 11, 12, 13, 14, 15, 16], [0, 1, 2, 3, 4, 5, 6, 7, 8, 9, 10, 11, 12, 13, 14, 15, 16], [0, 1, 2, 3, 4, 5, 6, 7, 8, 9, 10, 11, 12, 13, 14, 15, 16, 18], [0, 1, 2, 3, 4, 5, 6, 7, 8, 9, 10, 11, 12, 13, 14, 15, 16, 18, 19], [0, 1, 2, 3, 4, 5, 6, 7, 8, 9, 10, 11, 12, 13, 14, 15, 16, 18, 19, 20], [0, 1, 2, 3, 4, 5, 6, 7, 8, 9, 10, 11, 12, 13, 14, 15, 16, 18, 19, 20, 21], [0, 1, 2, 3, 4, 5, 6, 7, 8, 9, 10, 11, 12, 13, 14, 15, 16, 17, 18, 19, 20, 21, 22], [0, 1, 2, 3, 4, 5, 6, 7, 8, 9, 10, 11, 12, 13, 14, 15, 16, 17, 18, 19, 20, 21, 22, 23], [0, 1, 2, 3, 4, 5, 6, 7, 8, 9, 10, 11, 12, 13, 14, 15, 16, 17, 18, 19, 20, 21, 22, 23, 24], [0, 1, 2, 3, 4, 5, 6, 7, 8, 9, 10, 11, 12, 13, 14, 15, 16, 17, 18, 19, 20, 21, 22, 23, 24, 25], [0, 1, 2, 3, 4, 5, 6, 7, 8, 9, 10, 11, 12, 13, 14, 15, 16, 17, 18, 19, 20, 21, 22, 23, 24, 25, 26], [0, 1, 2, 3, 4, 5, 6, 7, 8, 9, 10, 11, 12, 13, 14, 15, 16, 17, 18, 19, 20, 21, 22, 23, 24, 25, 26, 27], [0, 1, 2, 3, 4, 5, 6, 7, 8, 9, 10, 11, 12, 13, 14, 15, 16, 17, 18, 19, 20, 21, 22, 23, 24, 25, 26, 27, 28], [0, 1, 2, 3, 4, 5, 6, 7, 8, 9, 10, 11, 12, 13, 14, 15, 16, 17, 18, 19, 20, 21, 22, 23, 24], [0, 1, 2, 3, 4, 5, 6, 7, 8, 9, 10, 11, 12, 13, 14, 15, 16, 17, 18, 19, 20, 21, 22, 23, 24], [0, 1, 2, 3, 4, 5, 6, 7, 8, 9, 10, 11, 12, 13, 14, 15, 16, 17, 18, 19, 20, 21, 22, 23, 24], [0, 1, 2, 3, 4, 5, 6, 7, 8, 9, 10, 11, 12, 13, 14, 15, 16, 17, 18, 19, 20, 21, 22, 23, 24, 31, 32], [0, 1, 2, 3, 4, 5, 6, 7, 8, 9, 10, 11, 12, 13, 14, 15, 16, 17, 18, 19, 20, 21, 22, 23, 24, 31, 32, 33], [0, 1, 2, 3, 4, 5, 6, 7, 8, 9, 10, 11, 12, 13, 14, 15, 16, 17, 18, 19, 20, 21, 22, 23, 24, 25, 26, 27, 28, 29, 30, 31, 32, 33, 34], [0, 1, 2, 3, 4, 5, 6, 7, 8, 9, 10, 11, 12, 13, 14, 15, 16, 17, 18, 19, 20, 21, 22, 23, 24, 25, 26, 27, 28, 29, 30, 31, 32, 33, 34, 35], [0, 1, 2, 3, 4, 5, 6, 7, 8, 9, 10, 11, 12, 13, 14, 15, 16, 17, 18, 19, 20, 21, 22, 23, 24, 25, 26, 27, 28, 29, 30, 31, 32, 33, 34, 35, 36], [0, 1, 2, 3, 4, 5, 6, 7, 8, 9, 10, 11, 12, 13, 14, 15, 16, 17, 18, 19, 20, 21, 22, 23, 24, 25, 26, 27, 28, 29, 30, 31, 32, 33, 34, 35, 36, 37]]) [[0, 1, 2, 3, 4, 5, 6, 7, 8, 9, 10, 11, 12, 13, 14, 15, 16, 17, 18, 19, 20, 21, 22, 23, 24, 25, 26, 27, 28, 30, 31, 32, 33, 29, 34, 35, 36, 37, 38], [0, 1, 2, 3, 4, 5, 6, 7, 8, 9, 10, 11, 12, 13, 14, 15, 16, 17, 18, 19, 20, 21, 22, 23, 24, 25, 26, 27, 28, 30, 31, 32, 33, 34, 29, 35, 36, 37, 38]] (by kernel_rfl) (by kernel_rfl) (NoPanic.seq (NoPanic.block (NoPanic.seq (NoPanic.seq (NoPanic.block (NoPanic.seq (NoPanic.body))))))) ?_
      have hS86 := hS38.drew
      revert hS86
      generalize World.drew w37 = w85
      intro hS86
      refine ⟨⟨blk_cell (hS86.rd 0).1 5 rfl, hS86.cell 0 rfl _ (cases8 (Q := fun z_ => (#[(sv Af p1.Cells cf), (iv p1.South.e0), (iv p1.South.e1), (iv p1.South.e2), (iv p1.South.e3), (iv p1.South.e4), (iv p1.South.e5), (iv p1.South.e6), (iv p1.South.e7), (iv p1.North.e0), (iv p1.North.e1), (iv p1.North.e2), (iv p1.North.e3), (iv p1.North.e4), (iv p1.North.e5), (iv p1.North.e6), (iv p1.North.e7), (iv p1.West), (iv p1.East)] : Array Value)[1 + z_.toNat * 1]? = some (iv (A8_Int.get p1.South z_))) h87 (by kernel_rfl) (by kernel_rfl) (by kernel_rfl) (by kernel_rfl) (by kernel_rfl) (by kernel_rfl) (by kernel_rfl) (by kernel_rfl)), trivial⟩, forallC ?_ (forallC ?_ (forallN))⟩
      ·
       refine sg 3 [] [0, 2, 4, 7, 33, 34, 39] [(0, (pt ga)), (2, (iv p2)), (4, (pt g9)), (7, (iv x33)), (33, (iv p0.width)), (34, (iv x33)), (39, (bv (p2 == 0)))] (by kernel_rfl) ?_
       refine WL.setB 39 h43 rfl ?_
       refine segF 13 [.v (sv Ad p0.edges.South cd), .v (iv (A8_Int.get p1.South x33))] [0, 2, 4, 7, 33, 34, 39, 44, 45, 49] [(0, (pt ga)), (2, (iv p2)), (4, (pt g9)), (7, (iv x33)), (33, (iv p0.width)), (34, (iv x33)), (39, (bv true)), (44, (sv Ad p0.edges.South cd)), (45, (iv x33)), (49, (iv (A8_Int.get p1.South x33)))] [.idx (some ⟨0, 0, none⟩) x33 8] [0, 1] [(7, ⟨ga, 5, none⟩, (sv Ad p0.edges.South cd)), (12, (flatA ⟨g9, 1, none⟩ (x33.toNat * 1)), (iv (A8_Int.get p1.South x33)))] (fun fb => by kernel_rfl) rfl ⟨⟨h87.1, h87.2, rfl⟩, trivial⟩ rfl ?_
       obtain ⟨t88, ht89, hx42⟩ := bind_some hx42
       refine WL.call (some 50) 98 #[(sv Ad p0.edges.South cd), (iv x33), (iv (A8_Int.get p1.South x33))] (fun fb => by kernel_rfl) (fill_at_calls p0.edges.South x33 (A8_Int.get p1.South x33) Ad cd t88 _ (hS86.rd 5) ht89) (fun v w90 hR91 => ?_)
       obtain ⟨rfl, hk_⟩ := hR91
       have hS92 := hS86.keepN hk_
       refine ⟨trivial, ?_⟩
       refine sg 17 [] [0, 2, 4, 7, 33, 34, 53] [(0, (pt ga)), (2, (iv p2)), (4, (pt g9)), (7, (iv x33)), (33, (iv p0.width)), (34, (iv x33)), (53, (bv (!t88)))] (by kernel_rfl) ?_
       refine WL.cutV (T := Bool) 39 (fun t => [(75, (bv t)), (0, (pt ga)), (2, (iv p2)), (4, (pt g9)), (33, (iv p0.width)), (34, (iv x33))]) (fun t => (!t88) = t) (fun K => ?_) ?_
       ·
        rcases Bool.eq_false_or_eq_true (!t88) with h93 | h93
        ·
         refine WL.setB 53 h93 rfl ?_
         refine sg 39 [] [0, 2, 4, 33, 34, 75] [(0, (pt ga)), (2, (iv p2)), (4, (pt g9)), (33, (iv p0.width)), (34, (iv x33)), (75, (bv true))] (by kernel_rfl) ?_
         exact WL.toV K true [75, 0, 2, 4, 33, 34] rfl (by first | (rw [h93]; done) | (rw [h93]; rfl))
        refine WL.setB 53 h93 rfl ?_
        refine seg 25 [.v (iv p0.height)] [0, 2, 4, 7, 33, 34, 53, 61] [(0, (pt ga)), (2, (iv p2)), (4, (pt g9)), (7, (iv x33)), (33, (iv p0.width)), (34, (iv x33)), (53, (bv false)), (61, (bv (p2 == (w64 (p0.height - 1)))))] [.cell ⟨ga, 2, none⟩ (iv p0.height)] (fun fb => by kernel_rfl) rfl ⟨blk_cell (hS92.rd 0).1 2 rfl, trivial⟩ ?_
        refine WL.setB 61 h44 rfl ?_
        refine sg 39 [] [0, 2, 4, 33, 34, 75] [(0, (pt ga)), (2, (iv p2)), (4, (pt g9)), (33, (iv p0.width)), (34, (iv x33)), (75, (bv false))] (by kernel_rfl) ?_
        exact WL.toV K false [75, 0, 2, 4, 33, 34] rfl (by first | (rw [h93]; done) | (rw [h93]; rfl))
       rintro b95 rfl
       refine WL.done rfl ?_
       injection hx42 with hx42
       exact WX.to Kx41 (!t88) [0, 2, 4, 33, 34, 75] rfl ⟨(hS92.subR [0, 1, 2, 3, 4, 5, 6, 7]).sub [0] (by decide), hx42.symm⟩
      refine sg 3 [] [0, 2, 4, 7, 33, 34, 39] [(0, (pt ga)), (2, (iv p2)), (4, (pt g9)), (7, (iv x33)), (33, (iv p0.width)), (34, (iv x33)), (39, (bv (p2 == 0)))] (by kernel_rfl) ?_
      refine WL.setB 39 h43 rfl ?_
      refine segF 13 [.v (sv Ad p0.edges.South cd), .v (iv (A8_Int.get p1.South x33))] [0, 2, 4, 7, 33, 34, 39, 44, 45, 49] [(0, (pt ga)), (2, (iv p2)), (4, (pt g9)), (7, (iv x33)), (33, (iv p0.width)), (34, (iv x33)), (39, (bv true)), (44, (sv Ad p0.edges.South cd)), (45, (iv x33)), (49, (iv (A8_Int.get p1.South x33)))] [.idx (some ⟨0, 0, none⟩) x33 8] [0, 1] [(7, ⟨ga, 5, none⟩, (sv Ad p0.edges.South cd)), (12, (flatA ⟨g9, 1, none⟩ (x33.toNat * 1)), (iv (A8_Int.get p1.South x33)))] (fun fb => by kernel_rfl) rfl ⟨⟨h87.1, h87.2, rfl⟩, trivial⟩ rfl ?_
      obtain ⟨t96, ht97, hx42⟩ := bind_some hx42
      refine WL.call (some 50) 98 #[(sv Ad p0.edges.South cd), (iv x33), (iv (A8_Int.get p1.South x33))] (fun fb => by kernel_rfl) (fill_at_calls p0.edges.South x33 (A8_Int.get p1.South x33) Ad cd t96 _ (hS86.rd 5) ht97) (fun v w98 hR99 => ?_)
      obtain ⟨rfl, hk_⟩ := hR99
      have hS100 := hS86.keepN hk_
      refine ⟨trivial, ?_⟩
      refine sg 17 [] [0, 2, 4, 7, 33, 34, 53] [(0, (pt ga)), (2, (iv p2)), (4, (pt g9)), (7, (iv x33)), (33, (iv p0.width)), (34, (iv x33)), (53, (bv (!t96)))] (by kernel_rfl) ?_
      refine WL.cutV (T := Bool) 39 (fun t => [(75, (bv t)), (0, (pt ga)), (2, (iv p2)), (4, (pt g9)), (33, (iv p0.width)), (34, (iv x33))]) (fun t => (!t96) = t) (fun K => ?_) ?_
      ·
       rcases Bool.eq_false_or_eq_true (!t96) with h101 | h101
       ·
        refine WL.setB 53 h101 rfl ?_
        refine sg 39 [] [0, 2, 4, 33, 34, 75] [(0, (pt ga)), (2, (iv p2)), (4, (pt g9)), (33, (iv p0.width)), (34, (iv x33)), (75, (bv true))] (by kernel_rfl) ?_
        exact WL.toV K true [75, 0, 2, 4, 33, 34] rfl (by first | (rw [h101]; done) | (rw [h101]; rfl))
       refine WL.setB 53 h101 rfl ?_
       refine seg 25 [.v (iv p0.height)] [0, 2, 4, 7, 33, 34, 53, 61] [(0, (pt ga)), (2, (iv p2)), (4, (pt g9)), (7, (iv x33)), (33, (iv p0.width)), (34, (iv x33)), (53, (bv false)), (61, (bv (p2 == (w64 (p0.height - 1)))))] [.cell ⟨ga, 2, none⟩ (iv p0.height)] (fun fb => by kernel_rfl) rfl ⟨blk_cell (hS100.rd 0).1 2 rfl, trivial⟩ ?_
       refine WL.setB 61 h44 rfl ?_
       refine sg 39 [] [0, 2, 4, 33, 34, 75] [(0, (pt ga)), (2, (iv p2)), (4, (pt g9)), (33, (iv p0.width)), (34, (iv x33)), (75, (bv false))] (by kernel_rfl) ?_
       exact WL.toV K false [75, 0, 2, 4, 33, 34] rfl (by first | (rw [h101]; done) | (rw [h101]; rfl))
      rintro b102 rfl
      refine WL.done rfl ?_
      injection hx42 with hx42
      exact WX.to Kx41 (!t96) [0, 2, 4, 33, 34, 75] rfl ⟨(hS100.subR [0, 1, 2, 3, 4, 5, 6, 7]).sub [0] (by decide), hx42.symm⟩
     rcases br_some hx42 with ⟨h103, hx42⟩ | ⟨h103, hx42⟩
     ·
      refine WC.regionD ([], [0, 1, 2, 3, 4, 5, 6, 7, 8, 9, 10, 11, 12, 14, 15, 16, 17, 18, 19, 20, 22, 23, 24, 25, 26, 27, 28, 30, 31, 32, 33, 36, 37, 38], [[], [0], [0, 1], [0, 1, 2], [0, 1, 2, 3], [0, 1, 2, 3, 4], [0, 1, 2, 3, 4, 5], [0, 1, 2, 3, 4, 5, 6], [0, 1, 2], [0, 1, 2], [0, 1, 2], [0, 1, 2, 9, 10], [0, 1, 2, 9, 10, 11], [0, 1, 2, 3, 4, 5, 6, 7, 8, 9, 10, 11, 12], [0, 1, 2, 3, 4, 5, 6, 7, 8, 9, 10, 11, 12, 13], [0, 1, 2, 3, 4, 5, 6, 7, 8, 9, 10, 11, 12, 13, 14], [0, 1, 2, 3, 4, 5, 6, 7, 8, 9, 10, 11, 12, 13, 14, 15], [0, 1, 2, 3, 4, 5, 6, 7, 8, 9, 10, 11, 12, 13, 14, 15, 16], [0, 1, 2, 3, 4, 5, 6, 7, 8, 9, 10, 11, 12, 13, 14, 15, 16], [0, 1, 2, 3, 4, 5, 6, 7, 8, 9, 10, 11, 12, 13, 14, 15, 16, 18], [0, 1, 2, 3, 4, 5, 6, 7, 8, 9, 10, 11, 12, 13, 14, 15, 16, 18, 19], [0, 1, 2, 3, 4, 5, 6, 7, 8, 9, 10, 11, 12, 13, 14, 15, 16, 18, 19, 20], [0, 1, 2, 3, 4, 5, 6, 7, 8, 9, 10, 11, 12, 13, 14, 15, 16, 18, 19, 20, 21], [0, 1, 2, 3, 4, 5, 6, 7, 8, 9, 10, 11, 12, 13, 14, 15, 16, 17, 18, 19, 20, 21, 22], [0, 1, 2, 3, 4, 5, 6, 7, 8, 9, 10, 11, 12, 13, 14, 15, 16, 17, 18, 19, 20, 21, 22, 23], [0, 1, 2, 3, 4, 5, 6, 7, 8, 9, 10, 11, 12, 13, 14, 15, 16, 17, 18, 19, 20, 21, 22, 23, 24], [0, 1, 2, 3, 4, 5, 6, 7, 8, 9, 10, 11, 12, 13, 14, 15, 16, 17, 18, 19, 20, 21, 22, 23, 24, 25], [0, 1, 2, 3, 4, 5, 6, 7, 8, 9, 10, 11, 12, 13, 14, 15, 16, 17, 18, 19, 20, 21, 22, 23, 24, 25, 26], [0, 1, 2, 3, 4, 5, 6, 7, 8, 9, 10, 11, 12, 13, 14, 15, 16, 17, 18, 19, 20, 21, 22, 23, 24, 25, 26, 27], [0, 1, 2, 3, 4, 5, 6, 7, 8, 9, 10, 11, 12, 13, 14, 15, 16, 17, 18, 19, 20, 21, 22, 23, 24, 25, 26, 27, 28], [0, 1, 2, 3, 4, 5, 6, 7, 8, 9, 10, 11, 12, 13, 14, 15, 16, 17, 18, 19, 20, 21, 22, 23, 24], [0, 1, 2, 3, 4, 5, 6, 7, 8, 9, 10, 11, 12, 13, 14, 15, 16, 17, 18, 19, 20, 21, 22, 23, 24], [0, 1, 2, 3, 4, 5, 6, 7, 8, 9, 10, 11, 12, 13, 14, 15, 16, 17, 18, 19, 20, 21, 22, 23, 24], [0, 1, 2, 3, 4, 5, 6, 7, 8, 9, 10, 11, 12, 13, 14, 15, 16, 17, 18, 19, 20, 21, 22, 23, 24, 31, 32], [0, 1, 2, 3, 4, 5, 6, 7, 8, 9, 10, 11, 12, 13, 14, 15, 16, 17, 18, 19, 20, 21, 22, 23, 24, 31, 32, 33], [0, 1, 2, 3, 4, 5, 6, 7, 8, 9, 10, 11, 12, 13, 14, 15, 16, 17, 18, 19, 20, 21, 22, 23, 24, 25, 26, 27, 28, 29, 30, 31, 32, 33, 34], [0, 1, 2, 3, 4, 5, 6, 7, 8, 9, 10, 11, 12, 13, 14, 15, 16, 17, 18, 19, 20, 21, 22, 23, 24, 25, 26, 27, 28, 29, 30, 31, 32, 33, 34, 35], [0, 1, 2, 3, 4, 5, 6, 7, 8, 9, 10, 11, 12, 13, 14, 15, 16, 17, 18, 19, 20, 21, 22, 23, 24, 25, 26, 27, 28, 29, 30, 31, 32, 33, 34, 35, 36], [0, 1, 2, 3, 4, 5, 6, 7, 8, 9, 10, 11, 12, 13, 14, 15, 16, 17, 18, 19, 20, 21, 22, 23, 24, 25, 26, 27, 28, 29, 30, 31, 32, 33, 34, 35, 36, 37]]) [[0, 1, 2, 3, 4, 5, 6, 7, 8, 9, 10, 11, 12, 13, 14, 15, 16, 17, 18, 19, 20, 21, 22, 23, 24, 25, 26, 27, 28, 30, 31, 32, 33, 29, 34, 35, 36, 37, 38], [0, 1, 2, 3, 4, 5, 6, 7, 8, 9, 10, 11, 12, 13, 14, 15, 16, 17, 18, 19, 20, 21, 22, 23, 24, 25, 26, 27, 28, 30, 31, 32, 33, 34, 29, 35, 36, 37, 38]] (by kernel_rfl) (by kernel_rfl) (NoPanic.seq (NoPanic.block (NoPanic.seq (NoPanic.seq (NoPanic.block (NoPanic.seq (NoPanic.body))))))) ?_
      have hS105 := hS38.drew
      revert hS105
      generalize World.drew w37 = w104
      intro hS105
      refine ⟨trivial, forallC ?_ (forallC ?_ (forallN))⟩
      ·
       refine sg 3 [] [0, 2, 4, 7, 33, 34, 39] [(0, (pt ga)), (2, (iv p2)), (4, (pt g9)), (7, (iv x33)), (33, (iv p0.width)), (34, (iv x33)), (39, (bv (p2 == 0)))] (by kernel_rfl) ?_
       refine WL.setB 39 h43 rfl ?_
       refine seg 25 [.v (iv p0.height)] [0, 2, 4, 7, 33, 34, 53, 61] [(0, (pt ga)), (2, (iv p2)), (4, (pt g9)), (7, (iv x33)), (33, (iv p0.width)), (34, (iv x33)), (53, (bv false)), (61, (bv (p2 == (w64 (p0.height - 1)))))] [.cell ⟨ga, 2, none⟩ (iv p0.height)] (fun fb => by kernel_rfl) rfl ⟨blk_cell (hS105.rd 0).1 2 rfl, trivial⟩ ?_
       refine WL.setB 61 h103 rfl ?_
       refine sg 32 [] [0, 2, 4, 33, 34, 53, 61, 65, 67, 68, 69] [(0, (pt ga)), (2, (iv p2)), (4, (pt g9)), (33, (iv p0.width)), (34, (iv x33)), (53, (bv false)), (61, (bv true)), (65, (.pointer (some ⟨ga, 3, none⟩))), (67, (iv x33)), (68, (iv x33)), (69, (.pointer (some ⟨g9, 9, none⟩)))] (by kernel_rfl) ?_
       obtain ⟨h106, hx42⟩ := as_some hx42
       refine seg 35 [.v (sv Ab p0.edges.North cb), .v (iv (A8_Int.get p1.North x33))] [0, 2, 4, 33, 34, 53, 61, 66, 67, 71] [(0, (pt ga)), (2, (iv p2)), (4, (pt g9)), (33, (iv p0.width)), (34, (iv x33)), (53, (bv false)), (61, (bv true)), (66, (sv Ab p0.edges.North cb)), (67, (iv x33)), (71, (iv (A8_Int.get p1.North x33)))] [.idx (some ⟨0, 0, none⟩) x33 8, .cell ⟨ga, 3, none⟩ (sv Ab p0.edges.North cb), .cell (flatA ⟨g9, 9, none⟩ (x33.toNat * 1)) (iv (A8_Int.get p1.North x33))] (fun fb => by kernel_rfl) rfl ⟨⟨h106.1, h106.2, rfl⟩, blk_cell (hS105.rd 0).1 3 rfl, hS105.cell 0 rfl _ (cases8 (Q := fun z_ => (#[(sv Af p1.Cells cf), (iv p1.South.e0), (iv p1.South.e1), (iv p1.South.e2), (iv p1.South.e3), (iv p1.South.e4), (iv p1.South.e5), (iv p1.South.e6), (iv p1.South.e7), (iv p1.North.e0), (iv p1.North.e1), (iv p1.North.e2), (iv p1.North.e3), (iv p1.North.e4), (iv p1.North.e5), (iv p1.North.e6), (iv p1.North.e7), (iv p1.West), (iv p1.East)] : Array Value)[9 + z_.toNat * 1]? = some (iv (A8_Int.get p1.North z_))) h106 (by kernel_rfl) (by kernel_rfl) (by kernel_rfl) (by kernel_rfl) (by kernel_rfl) (by kernel_rfl) (by kernel_rfl) (by kernel_rfl)), trivial⟩ ?_
       obtain ⟨t107, ht108, hx42⟩ := bind_some hx42
       refine WL.call (some 72) 98 #[(sv Ab p0.edges.North cb), (iv x33), (iv (A8_Int.get p1.North x33))] (fun fb => by kernel_rfl) (fill_at_calls p0.edges.North x33 (A8_Int.get p1.North x33) Ab cb t107 _ (hS105.rd 3) ht108) (fun v w109 hR110 => ?_)
       obtain ⟨rfl, hk_⟩ := hR110
       have hS111 := hS105.keepN hk_
       refine ⟨trivial, ?_⟩
       refine sg 39 [] [0, 2, 4, 33, 34, 75] [(0, (pt ga)), (2, (iv p2)), (4, (pt g9)), (33, (iv p0.width)), (34, (iv x33)), (75, (bv (!t107)))] (by kernel_rfl) ?_
       refine WL.done rfl ?_
       injection hx42 with hx42
       exact WX.to Kx41 (!t107) [0, 2, 4, 33, 34, 75] rfl ⟨(hS111.subR [0, 1, 2, 3, 4, 5, 6, 7]).sub [0] (by decide), hx42.symm⟩
      refine sg 3 [] [0, 2, 4, 7, 33, 34, 39] [(0, (pt ga)), (2, (iv p2)), (4, (pt g9)), (7, (iv x33)), (33, (iv p0.width)), (34, (iv x33)), (39, (bv (p2 == 0)))] (by kernel_rfl) ?_
      refine WL.setB 39 h43 rfl ?_
      refine seg 25 [.v (iv p0.height)] [0, 2, 4, 7, 33, 34, 53, 61] [(0, (pt ga)), (2, (iv p2)), (4, (pt g9)), (7, (iv x33)), (33, (iv p0.width)), (34, (iv x33)), (53, (bv false)), (61, (bv (p2 == (w64 (p0.height - 1)))))] [.cell ⟨ga, 2, none⟩ (iv p0.height)] (fun fb => by kernel_rfl) rfl ⟨blk_cell (hS105.rd 0).1 2 rfl, trivial⟩ ?_
      refine WL.setB 61 h103 rfl ?_
      refine sg 32 [] [0, 2, 4, 33, 34, 53, 61, 65, 67, 68, 69] [(0, (pt ga)), (2, (iv p2)), (4, (pt g9)), (33, (iv p0.width)), (34, (iv x33)), (53, (bv false)), (61, (bv true)), (65, (.pointer (some ⟨ga, 3, none⟩))), (67, (iv x33)), (68, (iv x33)), (69, (.pointer (some ⟨g9, 9, none⟩)))] (by kernel_rfl) ?_
      obtain ⟨h112, hx42⟩ := as_some hx42
      refine seg 35 [.v (iv (A8_Int.get p1.North x33)), .v (sv Ab p0.edges.North cb)] [0, 2, 4, 33, 34, 53, 61, 66, 67, 71] [(0, (pt ga)), (2, (iv p2)), (4, (pt g9)), (33, (iv p0.width)), (34, (iv x33)), (53, (bv false)), (61, (bv true)), (66, (sv Ab p0.edges.North cb)), (67, (iv x33)), (71, (iv (A8_Int.get p1.North x33)))] [.idx (some ⟨0, 0, none⟩) x33 8, .cell (flatA ⟨g9, 9, none⟩ (x33.toNat * 1)) (iv (A8_Int.get p1.North x33)), .cell ⟨ga, 3, none⟩ (sv Ab p0.edges.North cb)] (fun fb => by kernel_rfl) rfl ⟨⟨h112.1, h112.2, rfl⟩, hS105.cell 0 rfl _ (cases8 (Q := fun z_ => (#[(sv Af p1.Cells cf), (iv p1.South.e0), (iv p1.South.e1), (iv p1.South.e2), (iv p1.South.e3), (iv p1.South.e4), (iv p1.South.e5), (iv p1.South.e6), (iv p1.South.e7), (iv p1.North.e0), (iv p1.North.e1), (iv p1.North.e2), (iv p1.North.e3), (iv p1.North.e4), (iv p1.North.e5), (iv p1.North.e6), (iv p1.North.e7), (iv p1.West), (iv p1.East)] : Array Value)[9 + z_.toNat * 1]? = some (iv (A8_Int.get p1.North z_))) h112 (by kernel_rfl) (by kernel_rfl) (by kernel_rfl) (by kernel_rfl) (by kernel_rfl) (by kernel_rfl) (by kernel_rfl) (by kernel_rfl)), blk_cell (hS105.rd 0).1 3 rfl, trivial⟩ ?_
      obtain ⟨t113, ht114, hx42⟩ := bind_some hx42
      refine WL.call (some 72) 98 #[(sv Ab p0.edges.North cb), (iv x33), (iv (A8_Int.get p1.North x33))] (fun fb => by kernel_rfl) (fill_at_calls p0.edges.North x33 (A8_Int.get p1.North x33) Ab cb t113 _ (hS105.rd 3) ht114) (fun v w115 hR116 => ?_)
      obtain ⟨rfl, hk_⟩ := hR116
      have hS117 := hS105.keepN hk_
      refine ⟨trivial, ?_⟩
      refine sg 39 [] [0, 2, 4, 33, 34, 75] [(0, (pt ga)), (2, (iv p2)), (4, (pt g9)), (33, (iv p0.width)), (34, (iv x33)), (75, (bv (!t113)))] (by kernel_rfl) ?_
      refine WL.done rfl ?_
      injection hx42 with hx42
      exact WX.to Kx41 (!t113) [0, 2, 4, 33, 34, 75] rfl ⟨(hS117.subR [0, 1, 2, 3, 4, 5, 6, 7]).sub [0] (by decide), hx42.symm⟩
     refine WC.regionD ([], [0, 1, 2, 3, 4, 5, 6, 7, 8, 9, 10, 11, 12, 14, 15, 16, 17, 18, 19, 20, 22, 23, 24, 25, 26, 27, 28, 30, 31, 32, 33, 36, 37, 38], [[], [0], [0, 1], [0, 1, 2], [0, 1, 2, 3], [0, 1, 2, 3, 4], [0, 1, 2, 3, 4, 5], [0, 1, 2, 3, 4, 5, 6], [0, 1, 2], [0, 1, 2], [0, 1, 2], [0, 1, 2, 9, 10], [0, 1, 2, 9, 10, 11], [0, 1, 2, 3, 4, 5, 6, 7, 8, 9, 10, 11, 12], [0, 1, 2, 3, 4, 5, 6, 7, 8, 9, 10, 11, 12, 13], [0, 1, 2, 3, 4, 5, 6, 7, 8, 9, 10, 11, 12, 13, 14], [0, 1, 2, 3, 4, 5, 6, 7, 8, 9, 10, 11, 12, 13, 14, 15], [0, 1, 2, 3, 4, 5, 6, 7, 8, 9, 10, 11, 12, 13, 14, 15, 16], [0, 1, 2, 3, 4, 5, 6, 7, 8, 9, 10, 11, 12, 13, 14, 15, 16], [0, 1, 2, 3, 4, 5, 6, 7, 8, 9, 10, 11, 12, 13, 14, 15, 16, 18], [0, 1, 2, 3, 4, 5, 6, 7, 8, 9, 10, 11, 12, 13, 14, 15, 16, 18, 19], [0, 1, 2, 3, 4, 5, 6, 7, 8, 9, 10, 11, 12, 13, 14, 15, 16, 18, 19, 20], [0, 1, 2, 3, 4, 5, 6, 7, 8, 9, 10, 11, 12, 13, 14, 15, 16, 18, 19, 20, 21], [0, 1, 2, 3, 4, 5, 6, 7, 8, 9, 10, 11, 12, 13, 14, 15, 16, 17, 18, 19, 20, 21, 22], [0, 1, 2, 3, 4, 5, 6, 7, 8, 9, 10, 11, 12, 13, 14, 15, 16, 17, 18, 19, 20, 21, 22, 23], [0, 1, 2, 3, 4, 5, 6, 7, 8, 9, 10, 11, 12, 13, 14, 15, 16, 17, 18, 19, 20, 21, 22, 23, 24], [0, 1, 2, 3, 4, 5, 6, 7, 8, 9, 10, 11, 12, 13, 14, 15, 16, 17, 18, 19, 20, 21, 22, 23, 24, 25], [0, 1, 2, 3, 4, 5, 6, 7, 8, 9, 10, 11, 12, 13, 14, 15, 16, 17, 18, 19, 20, 21, 22, 23, 24, 25, 26], [0, 1, 2, 3, 4, 5, 6, 7, 8, 9, 10, 11, 12, 13, 14, 15, 16, 17, 18, 19, 20, 21, 22, 23, 24, 25, 26, 27], [0, 1, 2, 3, 4, 5, 6, 7, 8, 9, 10, 11, 12, 13, 14, 15, 16, 17, 18, 19, 20, 21, 22, 23, 24, 25, 26, 27, 28], [0, 1, 2, 3, 4, 5, 6, 7, 8, 9, 10, 11, 12, 13, 14, 15, 16, 17, 18, 19, 20, 21, 22, 23, 24], [0, 1, 2, 3, 4, 5, 6, 7, 8, 9, 10, 11, 12, 13, 14, 15, 16, 17, 18, 19, 20, 21, 22, 23, 24], [0, 1, 2, 3, 4, 5, 6, 7, 8, 9, 10, 11, 12, 13, 14, 15, 16, 17, 18, 19, 20, 21, 22, 23, 24], [0, 1, 2, 3, 4, 5, 6, 7, 8, 9, 10, 11, 12, 13, 14, 15, 16, 17, 18, 19, 20, 21, 22, 23, 24, 31, 32], [0, 1, 2, 3, 4, 5, 6, 7, 8, 9, 10, 11, 12, 13, 14, 15, 16, 17, 18, 19, 20, 21, 22, 23, 24, 31, 32, 33], [0, 1, 2, 3, 4, 5, 6, 7, 8, 9, 10, 11, 12, 13, 14, 15, 16, 17, 18, 19, 20, 21, 22, 23, 24, 25, 26, 27, 28, 29, 30, 31, 32, 33, 34], [0, 1, 2, 3, 4, 5, 6, 7, 8, 9, 10, 11, 12, 13, 14, 15, 16, 17, 18, 19, 20, 21, 22, 23, 24, 25, 26, 27, 28, 29, 30, 31, 32, 33, 34, 35], [0, 1, 2, 3, 4, 5, 6, 7, 8, 9, 10, 11, 12, 13, 14, 15, 16, 17, 18, 19, 20, 21, 22, 23, 24, 25, 26, 27, 28, 29, 30, 31, 32, 33, 34, 35, 36], [0, 1, 2, 3, 4, 5, 6, 7, 8, 9, 10, 11, 12, 13, 14, 15, 16, 17, 18, 19, 20, 21, 22, 23, 24, 25, 26, 27, 28, 29, 30, 31, 32, 33, 34, 35, 36, 37]]) [[0, 1, 2, 3, 4, 5, 6, 7, 8, 9, 10, 11, 12, 13, 14, 15, 16, 17, 18, 19, 20, 21, 22, 23, 24, 25, 26, 27, 28, 30, 31, 32, 33, 29, 34, 35, 36, 37, 38], [0, 1, 2, 3, 4, 5, 6, 7, 8, 9, 10, 11, 12, 13, 14, 15, 16, 17, 18, 19, 20, 21, 22, 23, 24, 25, 26, 27, 28, 30, 31, 32, 33, 34, 29, 35, 36, 37, 38]] (by kernel_rfl) (by kernel_rfl) (NoPanic.seq (NoPanic.block (NoPanic.seq (NoPanic.seq (NoPanic.block (NoPanic.seq (NoPanic.body))))))) ?_
     have hS119 := hS38.drew
     revert hS119
     generalize World.drew w37 = w118
     intro hS119
     refine ⟨trivial, forallC ?_ (forallC ?_ (forallN))⟩
     ·
      refine sg 3 [] [0, 2, 4, 7, 33, 34, 39] [(0, (pt ga)), (2, (iv p2)), (4, (pt g9)), (7, (iv x33)), (33, (iv p0.width)), (34, (iv x33)), (39, (bv (p2 == 0)))] (by kernel_rfl) ?_
      refine WL.setB 39 h43 rfl ?_
      refine seg 25 [.v (iv p0.height)] [0, 2, 4, 7, 33, 34, 53, 61] [(0, (pt ga)), (2, (iv p2)), (4, (pt g9)), (7, (iv x33)), (33, (iv p0.width)), (34, (iv x33)), (53, (bv false)), (61, (bv (p2 == (w64 (p0.height - 1)))))] [.cell ⟨ga, 2, none⟩ (iv p0.height)] (fun fb => by kernel_rfl) rfl ⟨blk_cell (hS119.rd 0).1 2 rfl, trivial⟩ ?_
      refine WL.setB 61 h103 rfl ?_
      refine sg 39 [] [0, 2, 4, 33, 34, 75] [(0, (pt ga)), (2, (iv p2)), (4, (pt g9)), (33, (iv p0.width)), (34, (iv x33)), (75, (bv false))] (by kernel_rfl) ?_
      refine WL.done rfl ?_
      injection hx42 with hx42
      exact WX.to Kx41 false [0, 2, 4, 33, 34, 75] rfl ⟨(hS119.subR [0, 1, 2, 3, 4, 5, 6, 7]).sub [0] (by decide), hx42.symm⟩
     refine sg 3 [] [0, 2, 4, 7, 33, 34, 39] [(0, (pt ga)), (2, (iv p2)), (4, (pt g9)), (7, (iv x33)), (33, (iv p0.width)), (34, (iv x33)), (39, (bv (p2 == 0)))] (by kernel_rfl) ?_
     refine WL.setB 39 h43 rfl ?_
     refine seg 25 [.v (iv p0.height)] [0, 2, 4, 7, 33, 34, 53, 61] [(0, (pt ga)), (2, (iv p2)), (4, (pt g9)), (7, (iv x33)), (33, (iv p0.width)), (34, (iv x33)), (53, (bv false)), (61, (bv (p2 == (w64 (p0.height - 1)))))] [.cell ⟨ga, 2, none⟩ (iv p0.height)] (fun fb => by kernel_rfl) rfl ⟨blk_cell (hS119.rd 0).1 2 rfl, trivial⟩ ?_
     refine WL.setB 61 h103 rfl ?_
     refine sg 39 [] [0, 2, 4, 33, 34, 75] [(0, (pt ga)), (2, (iv p2)), (4, (pt g9)), (33, (iv p0.width)), (34, (iv x33)), (75, (bv false))] (by kernel_rfl) ?_
     refine WL.done rfl ?_
     injection hx42 with hx42
     exact WX.to Kx41 false [0, 2, 4, 33, 34, 75] rfl ⟨(hS119.subR [0, 1, 2, 3, 4, 5, 6, 7]).sub [0] (by decide), hx42.symm⟩
    rintro y123 w120 ⟨hS121, hq122⟩
    subst hq122
    refine WX.next ?_
    rcases br_some hl39 with ⟨h124, hl39⟩ | ⟨h124, hl39⟩
    ·refine WC.condT2 (fun fb => by kernel_rfl) h124 ?_
     refine WC.seq (WC.region ?_)
     refine sg 1 [] [6] [(6, (bv false))] (by kernel_rfl) ?_
     refine WL.done rfl (WX.next ?_)
     refine WC.ret ?_
     injection hl39 with hl39
     subst hl39
     injection hf with hf
     subst hf
     exact WX.blockR (WX.thenR (WX.thenR (WX.blockR (WX.thenR (WX.ret_ [] (bv false) [] (fun fb => by kernel_rfl) trivial ⟨_, rfl, rfl, hS121.keep⟩)))))
    refine WC.condF2 (fun fb => by kernel_rfl) h124 ?_
    refine WC.skip ?_
    refine WX.blockN (WX.next ?_)
    refine WC.region ?_
    refine sg 2 [] [0, 2, 4, 33, 34] [(0, (pt ga)), (2, (iv p2)), (4, (pt g9)), (33, (iv p0.width)), (34, (iv (w64 (x33 + 1))))] (by kernel_rfl) ?_
    refine WL.done rfl ?_
    exact WX.again k36 (Nat.lt_succ_self _) (w64 (x33 + 1)) [0, 2, 4, 33, 34] rfl ⟨(hS121.subR [0, 1, 2, 3, 4, 5, 6, 7]).sub [0] (by decide), hl39⟩
   refine WC.condF2 (fun fb => by kernel_rfl) h40 ?_
   refine WC.exit ?_
   injection hl39 with hl39
   exact WX.thenX (WX.thenX (WX.blockHere (WX.to Kx34 () [] rfl ⟨(hS38.subR [0, 1, 2, 3, 4, 5, 6, 7]).sub [] (by decide), hl39.symm⟩)))
 rintro y128 w125 ⟨hS126, hq127⟩
 subst hq127
 have hf := sum_inr hf
 refine WX.next (WC.seq (WC.region ?_))
 refine sg 1 [] [6] [(6, (bv true))] (by kernel_rfl) ?_
 refine WL.done rfl (WX.next ?_)
 refine WC.ret ?_
 injection hf with hf
 subst hf
 exact WX.ret_ [] (bv true) [] (fun fb => by kernel_rfl) trivial ⟨_, rfl, rfl, hS126.keep⟩
end Gp
