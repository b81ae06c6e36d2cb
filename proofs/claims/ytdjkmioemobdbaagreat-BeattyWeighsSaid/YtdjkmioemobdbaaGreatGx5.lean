/- Walks: each function of the program computes its plain function. -/
import Derived.Test.YtdjkmioemobdbaaGreatGx4
set_option linter.unusedVariables false
set_option linter.unusedSimpArgs false
set_option maxHeartbeats 4000000
set_option maxRecDepth 8000
namespace Gp
open Go Gw Go.Proofs
theorem ref07_Weigh_calls (k : Nat) (p0 : List Piece) (Aa : Option Addr) (ca : Nat) (r : Weights × Bool) (w : World) (hR0 : RO NoS w (rowR enc_Piece Aa ca p0)) (hf : ref07_Weigh k p0 = some r) :
  CallsR Tryz.prog 19 #[(sv Aa p0 ca)] w (fun v w' => ∃ (A1_ : Option Addr), ∃ (c1_ : Nat), ∃ (A2_ : Option Addr), ∃ (c2_ : Nat), ∃ (A3_ : Option Addr), ∃ (c3_ : Nat), ∃ (A4_ : Option Addr), ∃ (c4_ : Nat), ∃ (A5_ : Option Addr), ∃ (c5_ : Nat), v = (.tuple #[(.agg #[(sv A1_ r.1.Values c1_), (sv A2_ r.1.Carries c2_), (sv A3_ r.1.Factors c3_), (sv A4_ r.1.Primes c4_), (sv A5_ r.1.Logs c5_)]), (bv r.2)]) ∧ St NoS w w' [] [rowO 44 enc_Frac A1_ c1_ r.1.Values, rowO 44 enc_Frac A2_ c2_ r.1.Carries, rowO 44 enc_Frac A3_ c3_ r.1.Factors, rowO 3 encInt A4_ c4_ r.1.Primes, rowO 3 encInt A5_ c5_ r.1.Logs]) := by
 have hS : St NoS w w [rowR enc_Piece Aa ca p0] [] := St.init (ro_cons hR0 (ro_nil _ _))
 refine enter 102 Tryz.func19 rfl Tryz.ntmps19 rfl ?_
 unfold ref07_Weigh at hf
 refine WC.seq (WC.region ?_)
 refine WL.new hS 2 [] (fun g => (pt g)) (.cells #[(.slice none 0 0), (.slice none 0 0), (.slice none 0 0), (.slice none 0 0), (.slice none 0 0)] 37 (0, 0)) [] (fun fb g => by kernel_rfl) trivial (fun g6 w8 hS9 => ?_)
 refine ⟨trivial, ?_⟩
 refine sg 2 [] [0, 2] [(0, (sv Aa p0 ca)), (2, (pt g6))] (by kernel_rfl) ?_
 refine WL.done rfl (WX.next (WC.seq (WC.region ?_)))
 refine sg 1 [] [0, 2, 12] [(0, (sv Aa p0 ca)), (2, (pt g6)), (12, (sv Aa p0 ca))] (by kernel_rfl) ?_
 obtain ⟨t10, ht11, hf⟩ := bind_some hf
 refine WL.call (some 13) 50 #[(sv Aa p0 ca)] (fun fb => by kernel_rfl) (ref07_primes_calls _ p0 Aa ca t10 _ (hS9.rd 0) ht11) (fun v w12 hR13 => ?_)
 obtain ⟨A15, c16, rfl, hk_⟩ := hR13
 have hS14 := hS.go w12 [rowO 3 encInt A15 c16 t10, blk g6 (.cells #[(.slice none 0 0), (.slice none 0 0), (.slice none 0 0), (.slice none 0 0), (.slice none 0 0)] 37 (0, 0))] (hS9.call hk_ [] [0] (fun g hg => hg.elim) (by simp) (by decide))
 refine ⟨trivial, ?_⟩
 refine sg 3 [] [0, 2, 14] [(0, (sv Aa p0 ca)), (2, (pt g6)), (14, (.agg #[(.slice none 0 0), (.slice none 0 0), (.slice none 0 0), (sv A15 t10 c16), (.slice none 0 0)]))] (by kernel_rfl) ?_
 refine WL.new hS14 4 [] (fun g => (pt g)) (.cells #[(.slice none 0 0), (.slice none 0 0), (.slice none 0 0), (.slice none 0 0), (.slice none 0 0)] 37 (0, 0)) [] (fun fb g => by kernel_rfl) trivial (fun g17 w18 hS20 => ?_)
 refine ⟨trivial, ?_⟩
 refine WL.store hS20 0 rfl [(0, (.slice none 0 0)), (1, (.slice none 0 0)), (2, (.slice none 0 0)), (3, (sv A15 t10 c16)), (4, (.slice none 0 0))] #[(.slice none 0 0), (.slice none 0 0), (.slice none 0 0), (sv A15 t10 c16), (.slice none 0 0)] (fun fb => by kernel_rfl) (by kernel_rfl) rfl [1, 2] (by decide) (by decide) (fun w21 hS22 => ?_)
 refine ⟨trivial, ?_⟩
 refine WL.done rfl (WX.next (WC.seq (WC.region ?_)))
 refine sg 1 [] [0, 2, 4] [(0, (sv Aa p0 ca)), (2, (pt g6)), (4, (pt g17))] (by kernel_rfl) ?_
 refine WL.done rfl (WX.next (WC.seq (WC.seq (WC.region ?_))))
 refine seg 3 [.v (sv A15 t10 c16)] [0, 2, 4, 16, 18] [(0, (sv Aa p0 ca)), (2, (pt g6)), (4, (pt g17)), (16, (sv Aa p0 ca)), (18, (sv A15 t10 c16))] [.cell ⟨g17, 3, none⟩ (sv A15 t10 c16)] (fun fb => by kernel_rfl) rfl ⟨hS22.cell 0 rfl 3 rfl, trivial⟩ ?_
 have hS23 := hS22.nilrow 3 encInt
 obtain ⟨t24, ht25, hf⟩ := bind_some hf
 refine WL.call (some 19) 51 #[(sv Aa p0 ca), (sv A15 t10 c16), (.slice none 0 0)] (fun fb => by kernel_rfl) (ref07_logs_calls _ p0 t10 ([] : List Int) Aa ca A15 c16 none 0 t24 _ (hS23.rdT [0] 0) (hS23.owT [0] 2 (by decide)).ofO (hS23.io [0] (by decide)) ht25) (fun v w26 hR27 => ?_)
 obtain ⟨A29, c30, rfl, hk_⟩ := hR27
 have hS28 := hS14.go w26 [rowO 3 encInt A29 c30 t24.1, blk g17 (.cells #[(.slice none 0 0), (.slice none 0 0), (.slice none 0 0), (sv A15 t10 c16), (.slice none 0 0)] 37 (0, 0)), rowO 3 encInt A15 c16 t10, blk g6 (.cells #[(.slice none 0 0), (.slice none 0 0), (.slice none 0 0), (.slice none 0 0), (.slice none 0 0)] 37 (0, 0))] (hS23.call hk_ [0] [1, 2, 3] (fun g hg => fpL_sel g hg) (by decide) (by decide))
 refine ⟨trivial, ?_⟩
 refine sg 8 [] [0, 2, 4, 20, 21, 22] [(0, (sv Aa p0 ca)), (2, (pt g6)), (4, (pt g17)), (20, (sv A29 t24.1 c30)), (21, (bv t24.2)), (22, (.pointer (some ⟨g17, 4, none⟩)))] (by kernel_rfl) ?_
 refine WL.store hS28 1 rfl [(4, (sv A29 t24.1 c30))] #[(.slice none 0 0), (.slice none 0 0), (.slice none 0 0), (sv A15 t10 c16), (sv A29 t24.1 c30)] (fun fb => by kernel_rfl) (by kernel_rfl) rfl [0, 2, 3] (by decide) (by decide) (fun w31 hS32 => ?_)
 refine ⟨trivial, ?_⟩
 refine sg 10 [] [0, 2, 4, 5] [(0, (sv Aa p0 ca)), (2, (pt g6)), (4, (pt g17)), (5, (bv t24.2))] (by kernel_rfl) ?_
 refine WL.done rfl (WX.next (WC.seq (WC.region ?_)))
 refine sg 2 [] [0, 2, 4, 24] [(0, (sv Aa p0 ca)), (2, (pt g6)), (4, (pt g17)), (24, (bv (!t24.2)))] (by kernel_rfl) ?_
 refine WL.done rfl (WX.next ?_)
 rcases br_some hf with ⟨h33, hf⟩ | ⟨h33, hf⟩
 ·refine WC.condT2 (fun fb => by kernel_rfl) h33 ?_
  refine WC.seq (WC.region ?_)
  refine sg 1 [] [2, 25] [(2, (pt g6)), (25, (.agg #[(.slice none 0 0), (.slice none 0 0), (.slice none 0 0), (.slice none 0 0), (.slice none 0 0)]))] (by kernel_rfl) ?_
  refine WL.store hS32 3 rfl [(0, (.slice none 0 0)), (1, (.slice none 0 0)), (2, (.slice none 0 0)), (3, (.slice none 0 0)), (4, (.slice none 0 0))] #[(.slice none 0 0), (.slice none 0 0), (.slice none 0 0), (.slice none 0 0), (.slice none 0 0)] (fun fb => by kernel_rfl) (by kernel_rfl) rfl [0, 1, 2] (by decide) (by decide) (fun w34 hS35 => ?_)
  refine ⟨trivial, ?_⟩
  refine sg 3 [] [2, 3] [(2, (pt g6)), (3, (bv false))] (by kernel_rfl) ?_
  refine WL.done rfl (WX.next ?_)
  refine WC.ret ?_
  have hS36 := hS35.nilrow 44 enc_Frac
  have hS37 := hS36.nilrow 44 enc_Frac
  have hS38 := hS37.nilrow 44 enc_Frac
  have hS39 := hS38.nilrow 3 encInt
  have hS40 := hS39.nilrow 3 encInt
  injection hf with hf
  subst hf
  exact WX.thenR (WX.ret_ [.v (.slice none 0 0), .v (.slice none 0 0), .v (.slice none 0 0), .v (.slice none 0 0), .v (.slice none 0 0)] (.tuple #[(.agg #[(sv none ([] : List Frac) 0), (sv none ([] : List Frac) 0), (sv none ([] : List Frac) 0), (sv none ([] : List Int) 0), (sv none ([] : List Int) 0)]), (bv false)]) [.cell ⟨g6, 0, none⟩ (.slice none 0 0), .cell ⟨g6, 1, none⟩ (.slice none 0 0), .cell ⟨g6, 2, none⟩ (.slice none 0 0), .cell ⟨g6, 3, none⟩ (.slice none 0 0), .cell ⟨g6, 4, none⟩ (.slice none 0 0)] (fun fb => by kernel_rfl) ⟨hS35.cell 0 rfl 0 rfl, hS35.cell 0 rfl 1 rfl, hS35.cell 0 rfl 2 rfl, hS35.cell 0 rfl 3 rfl, hS35.cell 0 rfl 4 rfl, trivial⟩ ⟨_, rfl, none, 0, none, 0, none, 0, none, 0, none, 0, rfl, (hS40.sub [4, 3, 2, 1, 0] (by decide)).noR⟩)
 refine WC.condF2 (fun fb => by kernel_rfl) h33 ?_
 refine WC.skip (WX.next (WC.seq (WC.region ?_)))
 refine sg 1 [] [0, 2, 4, 26] [(0, (sv Aa p0 ca)), (2, (pt g6)), (4, (pt g17)), (26, (sv Aa p0 ca))] (by kernel_rfl) ?_
 obtain ⟨t41, ht42, hf⟩ := bind_some hf
 refine WL.call (some 27) 41 #[(sv Aa p0 ca)] (fun fb => by kernel_rfl) (ref07_All_calls _ p0 Aa ca t41 _ (hS32.rd 0) ht42) (fun v w43 hR44 => ?_)
 obtain ⟨A46, c47, rfl, hk_⟩ := hR44
 have hS45 := hS28.go w43 [rowO 90 enc_Made A46 c47 t41, blk g17 (.cells #[(.slice none 0 0), (.slice none 0 0), (.slice none 0 0), (.slice A15 t10.length c16), (.slice A29 t24.1.length c30)] 37 (0, 0)), rowO 3 encInt A29 c30 t24.1, rowO 3 encInt A15 c16 t10, blk g6 (.cells #[(.slice none 0 0), (.slice none 0 0), (.slice none 0 0), (.slice none 0 0), (.slice none 0 0)] 37 (0, 0))] (hS32.call hk_ [] [0, 1, 2, 3] (fun g hg => hg.elim) (by simp) (by decide))
 refine ⟨trivial, ?_⟩
 refine sg 3 [] [0, 2, 4, 6] [(0, (sv Aa p0 ca)), (2, (pt g6)), (4, (pt g17)), (6, (sv A46 t41 c47))] (by kernel_rfl) ?_
 refine WL.done rfl (WX.next (WC.seq (WC.region ?_)))
 refine sg 1 [] [0, 2, 4, 6, 28] [(0, (sv Aa p0 ca)), (2, (pt g6)), (4, (pt g17)), (6, (sv A46 t41 c47)), (28, (sv A46 t41 c47))] (by kernel_rfl) ?_
 obtain ⟨t48, ht49, hf⟩ := bind_some hf
 refine WL.call (some 29) 42 #[(sv A46 t41 c47)] (fun fb => by kernel_rfl) (ref07_Colours_calls _ t41 A46 c47 t48 _ (hS45.ow 0).ofO ht49) (fun v w50 hR51 => ?_)
 obtain ⟨A53, c54, rfl, hk_⟩ := hR51
 have hS52 := hS45.go w50 [rowO 93 enc_Colour A53 c54 t48, rowO 90 enc_Made A46 c47 t41, blk g17 (.cells #[(.slice none 0 0), (.slice none 0 0), (.slice none 0 0), (.slice A15 t10.length c16), (.slice A29 t24.1.length c30)] 37 (0, 0)), rowO 3 encInt A29 c30 t24.1, rowO 3 encInt A15 c16 t10, blk g6 (.cells #[(.slice none 0 0), (.slice none 0 0), (.slice none 0 0), (.slice none 0 0), (.slice none 0 0)] 37 (0, 0))] (hS45.call hk_ [] [0, 1, 2, 3, 4] (fun g hg => hg.elim) (by simp) (by decide))
 refine ⟨trivial, ?_⟩
 refine sg 3 [] [0, 2, 4, 6, 7] [(0, (sv Aa p0 ca)), (2, (pt g6)), (4, (pt g17)), (6, (sv A46 t41 c47)), (7, (sv A53 t48 c54))] (by kernel_rfl) ?_
 refine WL.done rfl (WX.next (WC.seq (WC.region ?_)))
 refine sg 1 [] [0, 2, 4, 6, 7, 8] [(0, (sv Aa p0 ca)), (2, (pt g6)), (4, (pt g17)), (6, (sv A46 t41 c47)), (7, (sv A53 t48 c54)), (8, (iv 0))] (by kernel_rfl) ?_
 refine WL.done rfl (WX.next (WC.seq (WC.seq (WC.region ?_))))
 refine sg 1 [] [0, 2, 4, 6, 7, 8, 9] [(0, (sv Aa p0 ca)), (2, (pt g6)), (4, (pt g17)), (6, (sv A46 t41 c47)), (7, (sv A53 t48 c54)), (8, (iv 0)), (9, (iv 0))] (by kernel_rfl) ?_
 refine WL.done rfl (WX.next ?_)
 have hS55 := hS52.nilrow 44 enc_Frac
 obtain ⟨x63, hx65, hf⟩ := bind_some hf
 let e9 : Nat × Value := (7, (sv A53 t48 c54))
 let e10 : Nat × Value := (0, (sv Aa p0 ca))
 let e11 : Nat × Value := (6, (sv A46 t41 c47))
 let e12 : List Nat := [0, 1, 2, 3, 4, 5, 6, 7, 8, 9, 10, 11, 12]
 let e13 : Nat × Value := (4, (pt g17))
 let e16 : Nat × Value := (2, (pt g6))
 let e17 : List Nat := [0, 2, 4, 6, 7, 8, 9]
 refine WC.cutN (T := ((List Frac) × Int) × (Option Addr) × Nat) (fun t => [e10, e16, e13, e9, (8, (iv t.1.2))]) (fun t w1 => St NoS w w1 [rowR enc_Piece Aa ca p0] [blk g6 (.cells #[(.slice none 0 0), (.slice none 0 0), (.slice none 0 0), (.slice none 0 0), (.slice none 0 0)] 37 (0, 0)), blk g17 (.cells #[(.slice none 0 0), (.slice none 0 0), (sv t.2.1 t.1.1 t.2.2), (sv A15 t10 c16), (sv A29 t24.1 c30)] 37 (0, 0)), rowO 44 enc_Frac t.2.1 t.2.2 t.1.1, rowO 3 encInt A15 c16 t10, rowO 3 encInt A29 c30 t24.1, rowO 93 enc_Colour A53 c54 t48] ∧ x63 = t.1) (fun Kx63 => ?_) ?_
 ·
  refine WC.block ?_
  refine WC.loop (T := ((List Frac) × Int × Int) × (Option Addr) × Nat) (fun t => [e10, e16, e13, e11, e9, (8, (iv t.1.2.1)), (9, (iv t.1.2.2))]) (fun n t w1 => St NoS w w1 [rowR enc_Piece Aa ca p0] [blk g6 (.cells #[(.slice none 0 0), (.slice none 0 0), (.slice none 0 0), (.slice none 0 0), (.slice none 0 0)] 37 (0, 0)), blk g17 (.cells #[(.slice none 0 0), (.slice none 0 0), (sv t.2.1 t.1.1 t.2.2), (sv A15 t10 c16), (sv A29 t24.1 c30)] 37 (0, 0)), rowO 44 enc_Frac t.2.1 t.2.2 t.1.1, rowO 3 encInt A15 c16 t10, rowO 3 encInt A29 c30 t24.1, rowO 90 enc_Made A46 c47 t41, rowO 93 enc_Colour A53 c54 t48] ∧ ref07_Weigh.l0 n t.1.1 t.1.2.1 t.1.2.2 p0 t41 = some x63) k ((([] : List Frac), 0, 0), none, 0) e17 rfl ⟨(hS55.subR [0]).sub [6, 3, 0, 5, 4, 2, 1] (by decide), hx65⟩ ?_
  rintro k66 ⟨⟨l58, x59, x60⟩, A56, c57⟩ w67 ⟨hS68, hl69⟩
  let e1 := (rdD p0 ((rdD t41 x60 z_Made).Piece) z_Piece).Factor
  let e2 := rdD t41 x60 z_Made
  let e4 : List (Nat × Addr × Value) := [(1, ⟨g17, 2, none⟩, (sv A56 l58 c57)), (7, ((adr A46).add ((x60).toNat * 5)), (iv (e2.Piece))), (10, ((adr Aa).add ((e2.Piece).toNat * 6)), (iv (e1.Num))), (10, (((adr Aa).add ((e2.Piece).toNat * 6)).add 1), (iv (e1.Den)))]
  let e6 : List (Nat × Addr × Value) := [(5, (((adr A46).add ((x60).toNat * 5)).add 2), (iv (e2.N))), (10, (((adr A46).add ((x60).toNat * 5)).add 1), (iv (e2.S)))]
  let e8 : Nat × Value := (8, (iv (maxI (maxI x59 (e2.N)) (e2.S))))
  cases k66 with
  | zero => rw [ref07_Weigh.l0] at hl69; cases hl69
  | succ k66 =>
   rw [ref07_Weigh.l0] at hl69
   refine WC.seq (WC.seq (WC.region ?_))
   refine sg 4 [] [0, 2, 4, 6, 7, 8, 9, 33] [e10, e16, e13, e11, e9, (8, (iv x59)), (9, (iv x60)), (33, (bv (decide (x60 < (t41.length : Int)))))] (by kernel_rfl) ?_
   refine WL.done rfl (WX.next ?_)
   rcases br_some hl69 with ⟨h70, hl69⟩ | ⟨h70, hl69⟩
   ·refine WC.condT2 (fun fb => by kernel_rfl) h70 ?_
    refine WC.skip (WX.next (WC.seq (WC.block (WC.seq ?_))))
    obtain ⟨h73, hl69⟩ := as_some hl69
    refine WC.regionD (e6, e12, [[], [], [], [1, 2], [1, 2, 3], [1, 2, 3, 4], [], [], [6, 7], [6, 7, 8], [6, 7, 8, 9], [0, 1, 2, 3, 4, 5, 6, 7, 8, 9, 10], [0, 1, 2, 3, 4, 5, 6, 7, 8, 9, 10, 11]]) [e12] (by kernel_rfl) (by kernel_rfl) (NoPanic.seq (NoPanic.block (NoPanic.seq (NoPanic.seq (NoPanic.block (NoPanic.seq (NoPanic.body))))))) ?_
    have hS72 := hS68.drew
    revert hS72
    generalize World.drew w67 = w71
    intro hS72
    refine ⟨⟨rowR.cell (rowO.rd (hS72.own 5).1) z_Made h73.1 h73.2 2 rfl, rowR.cell (rowO.rd (hS72.own 5).1) z_Made h73.1 h73.2 1 rfl, trivial⟩, forallC ?_ (forallN)⟩
    refine segF 13 [.v (iv (e2.N)), .v (iv (e2.S))] e17 [e10, e16, e13, e11, e9, e8, (9, (iv x60))] [.idx A46 x60 t41.length, .idx A46 x60 t41.length] [0, 1] e6 (fun fb => by kernel_rfl) rfl ⟨rowR.adr (rowO.rd (hS72.own 5).1) h73.1 h73.2, rowR.adr (rowO.rd (hS72.own 5).1) h73.1 h73.2, trivial⟩ rfl ?_
    refine WL.done rfl (WX.next ?_)
    obtain ⟨h76, hl69⟩ := as_some hl69
    refine WC.regionD (e4, [0, 1, 2, 3, 4, 5, 6, 7, 8, 9, 10, 13], [[], [0], [], [], [], [3, 4], [3, 4, 5], [3, 4, 5, 6], [2, 3, 4, 5, 6, 7], [2, 3, 4, 5, 6, 7, 8], [2, 3, 4, 5, 6, 7, 8, 9], [2, 3, 4, 5, 6, 7, 8, 9, 10], [0, 1, 2, 3, 4, 5, 6, 7, 8, 9, 10, 11], e12, [0, 1, 2, 3, 4, 5, 6, 7, 8, 9, 10, 11, 12, 13]]) [[0, 1, 2, 3, 4, 5, 6, 7, 8, 9, 10, 11, 12, 13, 14]] (by kernel_rfl) (by kernel_rfl) (NoPanic.block (NoPanic.seq (NoPanic.seq (NoPanic.block (NoPanic.seq (NoPanic.body)))))) ?_
    have hS75 := hS72.drew
    revert hS75
    generalize World.drew w71 = w74
    intro hS75
    refine ⟨⟨hS75.cell 1 rfl 2 rfl, rowR.cell (rowO.rd (hS75.own 5).1) z_Made h73.1 h73.2 0 rfl, rowR.cell (hS75.rd 0).1 z_Piece h76.1 h76.2 0 rfl, rowR.cell (hS75.rd 0).1 z_Piece h76.1 h76.2 1 rfl, trivial⟩, forallC ?_ (forallN)⟩
    refine segF 11 [.v (sv A56 l58 c57), .v (iv (e2.Piece)), .v (iv (e1.Num)), .v (iv (e1.Den))] [0, 2, 4, 6, 7, 8, 9, 49, 58] [e10, e16, e13, e11, e9, e8, (9, (iv x60)), (49, (sv A56 l58 c57)), (58, (.agg #[(iv (e1.Num)), (iv (e1.Den))]))] [.idx A46 x60 t41.length, .idx Aa (e2.Piece) p0.length] [0, 1, 2, 3] e4 (fun fb => by kernel_rfl) rfl ⟨rowR.adr (rowO.rd (hS75.own 5).1) h73.1 h73.2, rowR.adr (hS75.rd 0).1 h76.1 h76.2, trivial⟩ rfl ?_
    refine WL.new hS75 59 [] (fun g => (.slice (some ⟨g, 0, none⟩) 1 1)) (.cells #[(iv (e1.Num)), (iv (e1.Den))] 44 (0, 0)) [] (fun fb g => by kernel_rfl) trivial (fun g77 w78 hS79 => ?_)
    refine ⟨⟨hS79.cell 2 rfl 2 rfl, trivial⟩, ?_⟩
    have hS80 := hS52.go w78 [rowO 44 enc_Frac (some ⟨g77, 0, none⟩) 1 [e1], blk g6 (.cells #[(.slice none 0 0), (.slice none 0 0), (.slice none 0 0), (.slice none 0 0), (.slice none 0 0)] 37 (0, 0)), blk g17 (.cells #[(.slice none 0 0), (.slice none 0 0), (sv A56 l58 c57), (sv A15 t10 c16), (sv A29 t24.1 c30)] 37 (0, 0)), rowO 44 enc_Frac A56 c57 l58, rowO 3 encInt A15 c16 t10, rowO 3 encInt A29 c30 t24.1, rowO 90 enc_Made A46 c47 t41, rowO 93 enc_Colour A53 c54 t48] (hS79.map1 0 _ (fun h => rowO.ofBlk h rfl (Nat.le_of_ble_eq_true (by kernel_rfl))) (fun _ h => by obtain ⟨_, h1, h2⟩ := h; injection h1 with h1; subst h1; exact h2) [1, 2, 3, 4, 5, 6, 7] (by decide) (by decide))
    obtain ⟨h81, hl69⟩ := as_some hl69
    refine WL.append hS80 3 (d := 60) (tS := 34) (z := (.agg #[(iv 0), (iv 0)])) (bytes := 16) (c2 := 1) rfl (fun fb => by kernel_rfl) (rowO.rd (hS80.own 0).1) (by kernel_rfl) (by kernel_rfl) rfl (by decide) h81 (by decide) [0, 1, 2, 4, 5, 6, 7] (by decide) (by decide) (fun A82 c83 w84 hS85 => ?_)
    refine ⟨trivial, ?_⟩
    refine sg 14 [] [0, 2, 4, 6, 7, 8, 9, 60, 61] [e10, e16, e13, e11, e9, e8, (9, (iv x60)), (60, (sv A82 (l58 ++ [e1]) c83)), (61, (.pointer (some ⟨g17, 2, none⟩)))] (by kernel_rfl) ?_
    refine WL.store hS85 3 rfl [(2, (sv A82 (l58 ++ [e1]) c83))] #[(.slice none 0 0), (.slice none 0 0), (sv A82 (l58 ++ [e1]) c83), (sv A15 t10 c16), (sv A29 t24.1 c30)] (fun fb => by kernel_rfl) (by kernel_rfl) rfl [0, 1, 2, 4, 5, 6, 7] (by decide) (by decide) (fun w86 hS87 => ?_)
    refine ⟨trivial, ?_⟩
    refine WL.done rfl ?_
    refine WX.blockN (WX.next ?_)
    refine WC.region ?_
    refine sg 3 [] e17 [e10, e16, e13, e11, e9, e8, (9, (iv (w64 (x60 + 1))))] (by kernel_rfl) ?_
    refine WL.done rfl ?_
    exact WX.again k66 (Nat.lt_succ_self _) ((l58 ++ [e1], maxI (maxI x59 (e2.N)) (e2.S), w64 (x60 + 1)), A82, c83) e17 rfl ⟨(hS87.subR [0]).sub [3, 0, 1, 4, 5, 6, 7] (by decide), hl69⟩
   refine WC.condF2 (fun fb => by kernel_rfl) h70 ?_
   refine WC.exit ?_
   injection hl69 with hl69
   exact WX.thenX (WX.thenX (WX.blockHere (WX.to Kx63 ((l58, x59), A56, c57) [0, 2, 4, 7, 8] rfl ⟨(hS68.subR [0]).sub [0, 1, 2, 3, 4, 6] (by decide), hl69.symm⟩)))
 rintro ⟨y91, A61, c62⟩ w88 ⟨hS89, hq90⟩
 subst hq90
 refine WX.next (WC.seq (WC.seq (WC.region ?_)))
 refine sg 1 [] [0, 2, 4, 7, 8, 10] [e10, e16, e13, e9, (8, (iv x63.2)), (10, (iv 0))] (by kernel_rfl) ?_
 refine WL.done rfl (WX.next ?_)
 have hS92 := hS89.nilrow 44 enc_Frac
 obtain ⟨x99, hx100, hf⟩ := bind_some hf
 refine WC.cutN (T := (List Frac) × (Option Addr) × Nat) (fun t => [e10, e16, e13, e9]) (fun t w1 => St NoS w w1 [rowR enc_Piece Aa ca p0] [blk g6 (.cells #[(.slice none 0 0), (.slice none 0 0), (.slice none 0 0), (.slice none 0 0), (.slice none 0 0)] 37 (0, 0)), blk g17 (.cells #[(sv t.2.1 t.1 t.2.2), (.slice none 0 0), (sv A61 x63.1 c62), (sv A15 t10 c16), (sv A29 t24.1 c30)] 37 (0, 0)), rowO 44 enc_Frac t.2.1 t.2.2 t.1, rowO 44 enc_Frac A61 c62 x63.1, rowO 3 encInt A15 c16 t10, rowO 3 encInt A29 c30 t24.1, rowO 93 enc_Colour A53 c54 t48] ∧ x99 = t.1) (fun Kx99 => ?_) ?_
 ·
  refine WC.block ?_
  refine WC.loop (T := ((List Frac) × Int) × (Option Addr) × Nat) (fun t => [e10, e16, e13, e9, (8, (iv x63.2)), (10, (iv t.1.2))]) (fun n t w1 => St NoS w w1 [rowR enc_Piece Aa ca p0] [blk g6 (.cells #[(.slice none 0 0), (.slice none 0 0), (.slice none 0 0), (.slice none 0 0), (.slice none 0 0)] 37 (0, 0)), blk g17 (.cells #[(sv t.2.1 t.1.1 t.2.2), (.slice none 0 0), (sv A61 x63.1 c62), (sv A15 t10 c16), (sv A29 t24.1 c30)] 37 (0, 0)), rowO 44 enc_Frac t.2.1 t.2.2 t.1.1, rowO 44 enc_Frac A61 c62 x63.1, rowO 3 encInt A15 c16 t10, rowO 3 encInt A29 c30 t24.1, rowO 93 enc_Colour A53 c54 t48] ∧ ref07_Weigh.l1 n t.1.1 t.1.2 x63 = some x99) k ((([] : List Frac), 0), none, 0) [0, 2, 4, 7, 8, 10] rfl ⟨(hS92.subR [0]).sub [1, 2, 0, 3, 4, 5, 6] (by decide), hx100⟩ ?_
  rintro k101 ⟨⟨l95, x96⟩, A93, c94⟩ w102 ⟨hS103, hl104⟩
  let e15 := [(Frac.mk x96 1)]
  cases k101 with
  | zero => rw [ref07_Weigh.l1] at hl104; cases hl104
  | succ k101 =>
   rw [ref07_Weigh.l1] at hl104
   refine WC.seq (WC.seq (WC.region ?_))
   refine sg 3 [] [0, 2, 4, 7, 8, 10, 64] [e10, e16, e13, e9, (8, (iv x63.2)), (10, (iv x96)), (64, (bv (decide (x96 ≤ x63.2))))] (by kernel_rfl) ?_
   refine WL.done rfl (WX.next ?_)
   rcases br_some hl104 with ⟨h105, hl104⟩ | ⟨h105, hl104⟩
   ·refine WC.condT2 (fun fb => by kernel_rfl) h105 ?_
    refine WC.skip (WX.next (WC.seq (WC.block (WC.region ?_))))
    refine seg 4 [.v (sv A93 l95 c94)] [0, 2, 4, 7, 8, 10, 68, 70] [e10, e16, e13, e9, (8, (iv x63.2)), (10, (iv x96)), (68, (sv A93 l95 c94)), (70, (.agg #[(iv x96), (iv 1)]))] [.cell ⟨g17, 0, none⟩ (sv A93 l95 c94)] (fun fb => by kernel_rfl) rfl ⟨hS103.cell 1 rfl 0 rfl, trivial⟩ ?_
    refine WL.new hS103 71 [] (fun g => (.slice (some ⟨g, 0, none⟩) 1 1)) (.cells #[(iv x96), (iv 1)] 44 (0, 0)) [] (fun fb g => by kernel_rfl) trivial (fun g106 w107 hS108 => ?_)
    refine ⟨trivial, ?_⟩
    have hS109 := hS52.go w107 [rowO 44 enc_Frac (some ⟨g106, 0, none⟩) 1 e15, blk g6 (.cells #[(.slice none 0 0), (.slice none 0 0), (.slice none 0 0), (.slice none 0 0), (.slice none 0 0)] 37 (0, 0)), blk g17 (.cells #[(sv A93 l95 c94), (.slice none 0 0), (sv A61 x63.1 c62), (sv A15 t10 c16), (sv A29 t24.1 c30)] 37 (0, 0)), rowO 44 enc_Frac A93 c94 l95, rowO 44 enc_Frac A61 c62 x63.1, rowO 3 encInt A15 c16 t10, rowO 3 encInt A29 c30 t24.1, rowO 93 enc_Colour A53 c54 t48] (hS108.map1 0 _ (fun h => rowO.ofBlk h rfl (Nat.le_of_ble_eq_true (by kernel_rfl))) (fun _ h => by obtain ⟨_, h1, h2⟩ := h; injection h1 with h1; subst h1; exact h2) [1, 2, 3, 4, 5, 6, 7] (by decide) (by decide))
    obtain ⟨h110, hl104⟩ := as_some hl104
    refine WL.append hS109 3 (d := 72) (tS := 34) (z := (.agg #[(iv 0), (iv 0)])) (bytes := 16) (c2 := 1) rfl (fun fb => by kernel_rfl) (rowO.rd (hS109.own 0).1) (by kernel_rfl) (by kernel_rfl) rfl (by decide) h110 (by decide) [0, 1, 2, 4, 5, 6, 7] (by decide) (by decide) (fun A111 c112 w113 hS114 => ?_)
    refine ⟨trivial, ?_⟩
    refine sg 7 [] [0, 2, 4, 7, 8, 10, 72, 73] [e10, e16, e13, e9, (8, (iv x63.2)), (10, (iv x96)), (72, (sv A111 (l95 ++ e15) c112)), (73, (pt g17))] (by kernel_rfl) ?_
    refine WL.store hS114 3 rfl [(0, (sv A111 (l95 ++ e15) c112))] #[(sv A111 (l95 ++ e15) c112), (.slice none 0 0), (sv A61 x63.1 c62), (sv A15 t10 c16), (sv A29 t24.1 c30)] (fun fb => by kernel_rfl) (by kernel_rfl) rfl [0, 1, 2, 4, 5, 6, 7] (by decide) (by decide) (fun w115 hS116 => ?_)
    refine ⟨trivial, ?_⟩
    refine WL.done rfl ?_
    refine WX.blockN (WX.next ?_)
    refine WC.region ?_
    refine sg 3 [] [0, 2, 4, 7, 8, 10] [e10, e16, e13, e9, (8, (iv x63.2)), (10, (iv (w64 (x96 + 1))))] (by kernel_rfl) ?_
    refine WL.done rfl ?_
    exact WX.again k101 (Nat.lt_succ_self _) ((l95 ++ e15, w64 (x96 + 1)), A111, c112) [0, 2, 4, 7, 8, 10] rfl ⟨(hS116.subR [0]).sub [3, 0, 1, 4, 5, 6, 7] (by decide), hl104⟩
   refine WC.condF2 (fun fb => by kernel_rfl) h105 ?_
   refine WC.exit ?_
   injection hl104 with hl104
   exact WX.thenX (WX.thenX (WX.blockHere (WX.to Kx99 (l95, A93, c94) [0, 2, 4, 7] rfl ⟨(hS103.subR [0]).sub [0, 1, 2, 3, 4, 5, 6] (by decide), hl104.symm⟩)))
 rintro ⟨y120, A97, c98⟩ w117 ⟨hS118, hq119⟩
 subst hq119
 refine WX.next (WC.seq (WC.seq (WC.region ?_)))
 refine sg 1 [] [0, 2, 4, 7, 11] [e10, e16, e13, e9, (11, (iv 0))] (by kernel_rfl) ?_
 refine WL.done rfl (WX.next ?_)
 have hS121 := hS118.nilrow 44 enc_Frac
 obtain ⟨x128, hx129, hf⟩ := bind_some hf
 refine WC.cutN (T := (List Frac) × (Option Addr) × Nat) (fun t => [e16, e13]) (fun t w1 => St NoS w w1 [rowR enc_Piece Aa ca p0] [blk g6 (.cells #[(.slice none 0 0), (.slice none 0 0), (.slice none 0 0), (.slice none 0 0), (.slice none 0 0)] 37 (0, 0)), blk g17 (.cells #[(sv A97 x99 c98), (sv t.2.1 t.1 t.2.2), (sv A61 x63.1 c62), (sv A15 t10 c16), (sv A29 t24.1 c30)] 37 (0, 0)), rowO 44 enc_Frac A97 c98 x99, rowO 44 enc_Frac t.2.1 t.2.2 t.1, rowO 44 enc_Frac A61 c62 x63.1, rowO 3 encInt A15 c16 t10, rowO 3 encInt A29 c30 t24.1] ∧ x128 = t.1) (fun Kx128 => ?_) ?_
 ·
  refine WC.block ?_
  refine WC.loop (T := ((List Frac) × Int) × (Option Addr) × Nat) (fun t => [e10, e16, e13, e9, (11, (iv t.1.2))]) (fun n t w1 => St NoS w w1 [rowR enc_Piece Aa ca p0] [blk g6 (.cells #[(.slice none 0 0), (.slice none 0 0), (.slice none 0 0), (.slice none 0 0), (.slice none 0 0)] 37 (0, 0)), blk g17 (.cells #[(sv A97 x99 c98), (sv t.2.1 t.1.1 t.2.2), (sv A61 x63.1 c62), (sv A15 t10 c16), (sv A29 t24.1 c30)] 37 (0, 0)), rowO 44 enc_Frac A97 c98 x99, rowO 44 enc_Frac t.2.1 t.2.2 t.1.1, rowO 44 enc_Frac A61 c62 x63.1, rowO 3 encInt A15 c16 t10, rowO 3 encInt A29 c30 t24.1, rowO 93 enc_Colour A53 c54 t48] ∧ ref07_Weigh.l2 n t.1.1 t.1.2 p0 t48 = some x128) k ((([] : List Frac), 0), none, 0) [0, 2, 4, 7, 11] rfl ⟨(hS121.subR [0]).sub [1, 2, 3, 0, 4, 5, 6, 7] (by decide), hx129⟩ ?_
  rintro k130 ⟨⟨l124, x125⟩, A122, c123⟩ w131 ⟨hS132, hl133⟩
  let e14 := rdD t48 x125 z_Colour
  let e3 : List (Nat × Addr × Value) := [(1, ⟨g17, 1, none⟩, (sv A122 l124 c123)), (6, (((adr A53).add ((x125).toNat * 2)).add 1), (iv (e14.Carry))), (12, ((adr A53).add ((x125).toNat * 2)), (iv (e14.Piece))), (16, (((adr Aa).add ((e14.Piece).toNat * 6)).add 1), (iv (((rdD p0 (e14.Piece) z_Piece).Factor).Den)))]
  let e5 := rdD t48 x125 z_Colour
  let e7 := ((rdD p0 (e5.Piece) z_Piece).Factor).Den
  cases k130 with
  | zero => rw [ref07_Weigh.l2] at hl133; cases hl133
  | succ k130 =>
   rw [ref07_Weigh.l2] at hl133
   refine WC.seq (WC.seq (WC.region ?_))
   refine sg 4 [] [0, 2, 4, 7, 11, 77] [e10, e16, e13, e9, (11, (iv x125)), (77, (bv (decide (x125 < (t48.length : Int)))))] (by kernel_rfl) ?_
   refine WL.done rfl (WX.next ?_)
   rcases br_some hl133 with ⟨h134, hl133⟩ | ⟨h134, hl133⟩
   ·refine WC.condT2 (fun fb => by kernel_rfl) h134 ?_
    refine WC.skip (WX.next (WC.seq (WC.block ?_)))
    obtain ⟨h137, hl133⟩ := as_some hl133
    obtain ⟨h138, hl133⟩ := as_some hl133
    refine WC.regionD (e3, [0, 1, 2, 3, 4, 5, 6, 7, 8, 9, 10, 11, 12, 13, 14, 15, 16, 20], [[], [0], [], [], [2, 3], [2, 3, 4], [2, 3, 4, 5], [], [], [], [8, 9], [8, 9, 10], [8, 9, 10, 11], [7, 8, 9, 10, 11, 12], [7, 8, 9, 10, 11, 12, 13], [7, 8, 9, 10, 11, 12, 13, 14], [7, 8, 9, 10, 11, 12, 13, 14, 15], [2, 3, 4, 5, 6, 7, 8, 9, 10, 11, 12, 13, 14, 15, 16], [2, 3, 4, 5, 6, 7, 8, 9, 10, 11, 12, 13, 14, 15, 16, 17], [0, 1, 2, 3, 4, 5, 6, 7, 8, 9, 10, 11, 12, 13, 14, 15, 16, 17, 18], [0, 1, 2, 3, 4, 5, 6, 7, 8, 9, 10, 11, 12, 13, 14, 15, 16, 17, 18, 19], [0, 1, 2, 3, 4, 5, 6, 7, 8, 9, 10, 11, 12, 13, 14, 15, 16, 17, 18, 19, 20]]) [[0, 1, 2, 3, 4, 5, 6, 7, 8, 9, 10, 11, 12, 13, 14, 15, 16, 17, 18, 19, 20, 21]] (by kernel_rfl) (by kernel_rfl) (NoPanic.block (NoPanic.seq (NoPanic.seq (NoPanic.block (NoPanic.seq (NoPanic.body)))))) ?_
    have hS136 := hS132.drew
    revert hS136
    generalize World.drew w131 = w135
    intro hS136
    refine ⟨⟨hS136.cell 1 rfl 1 rfl, rowR.cell (rowO.rd (hS136.own 7).1) z_Colour h137.1 h137.2 1 rfl, rowR.cell (rowO.rd (hS136.own 7).1) z_Colour h137.1 h137.2 0 rfl, rowR.cell (hS136.rd 0).1 z_Piece h138.1 h138.2 1 rfl, trivial⟩, forallC ?_ (forallN)⟩
    refine segF 17 [.v (sv A122 l124 c123), .v (iv (e5.Carry)), .v (iv (e5.Piece)), .v (iv e7)] [0, 2, 4, 7, 11, 81, 86, 96] [e10, e16, e13, e9, (11, (iv x125)), (81, (sv A122 l124 c123)), (86, (iv (e5.Carry))), (96, (iv e7))] [.idx A53 x125 t48.length, .idx A53 x125 t48.length, .idx Aa (e5.Piece) p0.length] [0, 1, 2, 3] e3 (fun fb => by kernel_rfl) rfl ⟨rowR.adr (rowO.rd (hS136.own 7).1) h137.1 h137.2, rowR.adr (rowO.rd (hS136.own 7).1) h137.1 h137.2, rowR.adr (hS136.rd 0).1 h138.1 h138.2, trivial⟩ rfl ?_
    obtain ⟨t139, ht140, hl133⟩ := bind_some hl133
    refine WL.call (some 97) 52 #[(iv (e5.Carry)), (iv e7)] (fun fb => by kernel_rfl) (ref07_lowest_calls _ (e5.Carry) e7 t139 _ ht140) (fun v w141 hR142 => ?_)
    obtain ⟨rfl, hk_⟩ := hR142
    have hS143 := hS136.keepN hk_
    refine ⟨⟨hS143.cell 1 rfl 1 rfl, trivial⟩, ?_⟩
    refine WL.new hS143 98 [] (fun g => (.slice (some ⟨g, 0, none⟩) 1 1)) (.cells #[(iv t139.Num), (iv t139.Den)] 44 (0, 0)) [] (fun fb g => by kernel_rfl) trivial (fun g144 w145 hS146 => ?_)
    refine ⟨⟨hS146.cell 2 rfl 1 rfl, trivial⟩, ?_⟩
    have hS147 := hS52.go w145 [rowO 44 enc_Frac (some ⟨g144, 0, none⟩) 1 [t139], blk g6 (.cells #[(.slice none 0 0), (.slice none 0 0), (.slice none 0 0), (.slice none 0 0), (.slice none 0 0)] 37 (0, 0)), blk g17 (.cells #[(sv A97 x99 c98), (sv A122 l124 c123), (sv A61 x63.1 c62), (sv A15 t10 c16), (sv A29 t24.1 c30)] 37 (0, 0)), rowO 44 enc_Frac A97 c98 x99, rowO 44 enc_Frac A122 c123 l124, rowO 44 enc_Frac A61 c62 x63.1, rowO 3 encInt A15 c16 t10, rowO 3 encInt A29 c30 t24.1, rowO 93 enc_Colour A53 c54 t48] (hS146.map1 0 _ (fun h => rowO.ofBlk h rfl (Nat.le_of_ble_eq_true (by kernel_rfl))) (fun _ h => by obtain ⟨_, h1, h2⟩ := h; injection h1 with h1; subst h1; exact h2) [1, 2, 3, 4, 5, 6, 7, 8] (by decide) (by decide))
    obtain ⟨h148, hl133⟩ := as_some hl133
    refine WL.append hS147 4 (d := 99) (tS := 34) (z := (.agg #[(iv 0), (iv 0)])) (bytes := 16) (c2 := 1) rfl (fun fb => by kernel_rfl) (rowO.rd (hS147.own 0).1) (by kernel_rfl) (by kernel_rfl) rfl (by decide) h148 (by decide) [0, 1, 2, 3, 5, 6, 7, 8] (by decide) (by decide) (fun A149 c150 w151 hS152 => ?_)
    refine ⟨trivial, ?_⟩
    refine sg 21 [] [0, 2, 4, 7, 11, 99, 100] [e10, e16, e13, e9, (11, (iv x125)), (99, (sv A149 (l124 ++ [t139]) c150)), (100, (.pointer (some ⟨g17, 1, none⟩)))] (by kernel_rfl) ?_
    refine WL.store hS152 3 rfl [(1, (sv A149 (l124 ++ [t139]) c150))] #[(sv A97 x99 c98), (sv A149 (l124 ++ [t139]) c150), (sv A61 x63.1 c62), (sv A15 t10 c16), (sv A29 t24.1 c30)] (fun fb => by kernel_rfl) (by kernel_rfl) rfl [0, 1, 2, 4, 5, 6, 7, 8] (by decide) (by decide) (fun w153 hS154 => ?_)
    refine ⟨trivial, ?_⟩
    refine WL.done rfl ?_
    refine WX.blockN (WX.next ?_)
    refine WC.region ?_
    refine sg 3 [] [0, 2, 4, 7, 11] [e10, e16, e13, e9, (11, (iv (w64 (x125 + 1))))] (by kernel_rfl) ?_
    refine WL.done rfl ?_
    exact WX.again k130 (Nat.lt_succ_self _) ((l124 ++ [t139], w64 (x125 + 1)), A149, c150) [0, 2, 4, 7, 11] rfl ⟨(hS154.subR [0]).sub [3, 0, 4, 1, 5, 6, 7, 8] (by decide), hl133⟩
   refine WC.condF2 (fun fb => by kernel_rfl) h134 ?_
   refine WC.exit ?_
   injection hl133 with hl133
   exact WX.thenX (WX.thenX (WX.blockHere (WX.to Kx128 (l124, A122, c123) [2, 4] rfl ⟨(hS132.subR [0]).sub [0, 1, 2, 3, 4, 5, 6] (by decide), hl133.symm⟩)))
 rintro ⟨y158, A126, c127⟩ w155 ⟨hS156, hq157⟩
 subst hq157
 refine WX.next (WC.seq (WC.region ?_))
 refine seg 1 [.v (sv A97 x99 c98), .v (sv A126 x128 c127), .v (sv A61 x63.1 c62), .v (sv A15 t10 c16), .v (sv A29 t24.1 c30)] [2, 101] [e16, (101, (.agg #[(sv A97 x99 c98), (sv A126 x128 c127), (sv A61 x63.1 c62), (sv A15 t10 c16), (sv A29 t24.1 c30)]))] [.cell ⟨g17, 0, none⟩ (sv A97 x99 c98), .cell ⟨g17, 1, none⟩ (sv A126 x128 c127), .cell ⟨g17, 2, none⟩ (sv A61 x63.1 c62), .cell ⟨g17, 3, none⟩ (sv A15 t10 c16), .cell ⟨g17, 4, none⟩ (sv A29 t24.1 c30)] (fun fb => by kernel_rfl) rfl ⟨hS156.cell 1 rfl 0 rfl, hS156.cell 1 rfl 1 rfl, hS156.cell 1 rfl 2 rfl, hS156.cell 1 rfl 3 rfl, hS156.cell 1 rfl 4 rfl, trivial⟩ ?_
 refine WL.store hS156 0 rfl [(0, (sv A97 x99 c98)), (1, (sv A126 x128 c127)), (2, (sv A61 x63.1 c62)), (3, (sv A15 t10 c16)), (4, (sv A29 t24.1 c30))] #[(sv A97 x99 c98), (sv A126 x128 c127), (sv A61 x63.1 c62), (sv A15 t10 c16), (sv A29 t24.1 c30)] (fun fb => by kernel_rfl) (by kernel_rfl) rfl [1, 2, 3, 4, 5, 6] (by decide) (by decide) (fun w159 hS160 => ?_)
 refine ⟨trivial, ?_⟩
 refine sg 3 [] [2, 3] [e16, (3, (bv true))] (by kernel_rfl) ?_
 refine WL.done rfl (WX.next ?_)
 refine WC.ret ?_
 injection hf with hf
 subst hf
 exact WX.ret_ [.v (sv A97 x99 c98), .v (sv A126 x128 c127), .v (sv A61 x63.1 c62), .v (sv A15 t10 c16), .v (sv A29 t24.1 c30)] (.tuple #[(.agg #[(sv A97 x99 c98), (sv A126 x128 c127), (sv A61 x63.1 c62), (sv A15 t10 c16), (sv A29 t24.1 c30)]), (bv true)]) [.cell ⟨g6, 0, none⟩ (sv A97 x99 c98), .cell ⟨g6, 1, none⟩ (sv A126 x128 c127), .cell ⟨g6, 2, none⟩ (sv A61 x63.1 c62), .cell ⟨g6, 3, none⟩ (sv A15 t10 c16), .cell ⟨g6, 4, none⟩ (sv A29 t24.1 c30)] (fun fb => by kernel_rfl) ⟨hS160.cell 0 rfl 0 rfl, hS160.cell 0 rfl 1 rfl, hS160.cell 0 rfl 2 rfl, hS160.cell 0 rfl 3 rfl, hS160.cell 0 rfl 4 rfl, trivial⟩ ⟨_, rfl, A97, c98, A126, c127, A61, c62, A15, c16, A29, c30, rfl, (hS160.sub [2, 3, 4, 5, 6] (by decide)).noR⟩
theorem law07_BeattyWeighs_calls (k : Nat) (p0 : List Piece) (Aa : Option Addr) (ca : Nat) (r : Bool) (w : World) (hR0 : RO NoS w (rowR enc_Piece Aa ca p0)) (hf : law07_BeattyWeighs k p0 = some r) :
  CallsR Tryz.prog 4 #[(sv Aa p0 ca)] w (fun v w' => v = (bv r) ∧ Keeps NoS w w') := by
 have hS : St NoS w w [rowR enc_Piece Aa ca p0] [] := St.init (ro_cons hR0 (ro_nil _ _))
 refine enter 68 Tryz.func4 rfl Tryz.ntmps4 rfl ?_
 unfold law07_BeattyWeighs at hf
 refine WC.seq (WC.region ?_)
 refine sg 1 [] [0] [(0, (sv Aa p0 ca))] (by kernel_rfl) ?_
 refine WL.done rfl (WX.next (WC.seq (WC.seq (WC.region ?_))))
 refine sg 3 [] [0, 10] [(0, (sv Aa p0 ca)), (10, (bv (decide ((p0.length : Int) > 100))))] (by kernel_rfl) ?_
 refine WL.done rfl (WX.next ?_)
 rcases br_some hf with ⟨h1, hf⟩ | ⟨h1, hf⟩
 ·refine WC.condT2 (fun fb => by kernel_rfl) h1 ?_
  refine WC.seq (WC.region ?_)
  obtain ⟨t3, ht5, hf⟩ := bind_some hf
  refine WL.call (some 11) 8 #[] (fun fb => by kernel_rfl) (law07_awake_calls _ t3 _ ht5) (fun v w6 hR8 => ?_)
  obtain ⟨rfl, hk_⟩ := hR8
  have hS9 := hS.keepN hk_
  refine ⟨trivial, ?_⟩
  refine sg 2 [] [2] [(2, (bv t3))] (by kernel_rfl) ?_
  refine WL.done rfl (WX.next ?_)
  refine WC.ret ?_
  injection hf with hf
  subst hf
  exact WX.thenR (WX.ret_ [] (bv t3) [] (fun fb => by kernel_rfl) trivial ⟨_, rfl, rfl, hS9.keep⟩)
 refine WC.condF2 (fun fb => by kernel_rfl) h1 ?_
 refine WC.skip (WX.next (WC.seq (WC.region ?_)))
 refine sg 1 [] [0, 13] [(0, (sv Aa p0 ca)), (13, (sv Aa p0 ca))] (by kernel_rfl) ?_
 obtain ⟨t10, ht11, hf⟩ := bind_some hf
 refine WL.call (some 14) 17 #[(sv Aa p0 ca)] (fun fb => by kernel_rfl) (beatty_Weigh_calls _ p0 Aa ca t10 _ (hS.rd 0) ht11) (fun v w12 hR13 => ?_)
 obtain ⟨A15, c16, A17, c18, A19, c20, A21, c22, A23, c24, rfl, hk_⟩ := hR13
 have hS14 := hS.go w12 [rowO 44 enc_Frac A15 c16 t10.1.Values, rowO 44 enc_Frac A17 c18 t10.1.Carries, rowO 44 enc_Frac A19 c20 t10.1.Factors, rowO 3 encInt A21 c22 t10.1.Primes, rowO 3 encInt A23 c24 t10.1.Logs] (hS.call hk_ [] [] (fun g hg => hg.elim) (by simp) (by decide))
 refine ⟨trivial, ?_⟩
 refine sg 5 [] [0, 15, 16] [(0, (sv Aa p0 ca)), (15, (.agg #[(sv A15 t10.1.Values c16), (sv A17 t10.1.Carries c18), (sv A19 t10.1.Factors c20), (sv A21 t10.1.Primes c22), (sv A23 t10.1.Logs c24)])), (16, (iv t10.2))] (by kernel_rfl) ?_
 refine WL.new hS14 3 [] (fun g => (pt g)) (.cells #[(.slice none 0 0), (.slice none 0 0), (.slice none 0 0), (.slice none 0 0), (.slice none 0 0)] 37 (0, 0)) [] (fun fb g => by kernel_rfl) trivial (fun g25 w26 hS27 => ?_)
 refine ⟨trivial, ?_⟩
 refine WL.store hS27 0 rfl [(0, (sv A15 t10.1.Values c16)), (1, (sv A17 t10.1.Carries c18)), (2, (sv A19 t10.1.Factors c20)), (3, (sv A21 t10.1.Primes c22)), (4, (sv A23 t10.1.Logs c24))] #[(sv A15 t10.1.Values c16), (sv A17 t10.1.Carries c18), (sv A19 t10.1.Factors c20), (sv A21 t10.1.Primes c22), (sv A23 t10.1.Logs c24)] (fun fb => by kernel_rfl) (by kernel_rfl) rfl [1, 2, 3, 4, 5] (by decide) (by decide) (fun w28 hS29 => ?_)
 refine ⟨trivial, ?_⟩
 refine sg 8 [] [0, 3, 4] [(0, (sv Aa p0 ca)), (3, (pt g25)), (4, (iv t10.2))] (by kernel_rfl) ?_
 refine WL.done rfl (WX.next (WC.seq (WC.region ?_)))
 refine seg 2 [.v (sv A15 t10.1.Values c16), .v (sv A17 t10.1.Carries c18), .v (sv A19 t10.1.Factors c20), .v (sv A21 t10.1.Primes c22), .v (sv A23 t10.1.Logs c24)] [0, 3, 4, 17, 18] [(0, (sv Aa p0 ca)), (3, (pt g25)), (4, (iv t10.2)), (17, (.agg #[(sv A15 t10.1.Values c16), (sv A17 t10.1.Carries c18), (sv A19 t10.1.Factors c20), (sv A21 t10.1.Primes c22), (sv A23 t10.1.Logs c24)])), (18, (.agg #[(.slice none 0 0), (.slice none 0 0), (.slice none 0 0), (.slice none 0 0), (.slice none 0 0)]))] [.cell ⟨g25, 0, none⟩ (sv A15 t10.1.Values c16), .cell ⟨g25, 1, none⟩ (sv A17 t10.1.Carries c18), .cell ⟨g25, 2, none⟩ (sv A19 t10.1.Factors c20), .cell ⟨g25, 3, none⟩ (sv A21 t10.1.Primes c22), .cell ⟨g25, 4, none⟩ (sv A23 t10.1.Logs c24)] (fun fb => by kernel_rfl) rfl ⟨hS29.cell 0 rfl 0 rfl, hS29.cell 0 rfl 1 rfl, hS29.cell 0 rfl 2 rfl, hS29.cell 0 rfl 3 rfl, hS29.cell 0 rfl 4 rfl, trivial⟩ ?_
 obtain ⟨t30, ht31, hf⟩ := bind_some hf
 refine WL.call (some 19) 18 #[(.agg #[(sv A15 t10.1.Values c16), (sv A17 t10.1.Carries c18), (sv A19 t10.1.Factors c20), (sv A21 t10.1.Primes c22), (sv A23 t10.1.Logs c24)]), (.agg #[(.slice none 0 0), (.slice none 0 0), (.slice none 0 0), (.slice none 0 0), (.slice none 0 0)])] (fun fb => by kernel_rfl) (ref07_SameWeights_calls _ t10.1 (Weights.mk ([] : List Frac) ([] : List Frac) ([] : List Frac) ([] : List Int) ([] : List Int)) A15 c16 A17 c18 A19 c20 A21 c22 A23 c24 none 0 none 0 none 0 none 0 none 0 t30 _ (hS29.ow 1).ofO (hS29.ow 2).ofO (hS29.ow 3).ofO (hS29.ow 4).ofO (hS29.ow 5).ofO (RO.nilR _ _ _) (RO.nilR _ _ _) (RO.nilR _ _ _) (RO.nilR _ _ _) (RO.nilR _ _ _) ht31) (fun v w32 hR33 => ?_)
 obtain ⟨rfl, hk_⟩ := hR33
 have hS34 := hS29.keepN hk_
 refine ⟨trivial, ?_⟩
 refine sg 4 [] [0, 3, 4, 5] [(0, (sv Aa p0 ca)), (3, (pt g25)), (4, (iv t10.2)), (5, (bv t30))] (by kernel_rfl) ?_
 refine WL.done rfl (WX.next (WC.seq (WC.seq (WC.region ?_))))
 refine sg 1 [] [0, 3, 4, 5, 20] [(0, (sv Aa p0 ca)), (3, (pt g25)), (4, (iv t10.2)), (5, (bv t30)), (20, (sv Aa p0 ca))] (by kernel_rfl) ?_
 obtain ⟨t35, ht36, hf⟩ := bind_some hf
 refine WL.call (some 21) 12 #[(sv Aa p0 ca)] (fun fb => by kernel_rfl) (ref07_Valid_calls _ p0 Aa ca t35 _ (hS34.rd 0) ht36) (fun v w37 hR38 => ?_)
 obtain ⟨rfl, hk_⟩ := hR38
 have hS39 := hS34.keepN hk_
 refine ⟨trivial, ?_⟩
 refine sg 3 [] [0, 3, 4, 5, 22] [(0, (sv Aa p0 ca)), (3, (pt g25)), (4, (iv t10.2)), (5, (bv t30)), (22, (bv (!t35)))] (by kernel_rfl) ?_
 refine WL.done rfl (WX.next ?_)
 rcases br_some hf with ⟨h40, hf⟩ | ⟨h40, hf⟩
 ·refine WC.condT2 (fun fb => by kernel_rfl) h40 ?_
  refine WC.seq (WC.region ?_)
  refine sg 3 [] [5, 25] [(5, (bv t30)), (25, (bv (t10.2 == 1)))] (by kernel_rfl) ?_
  refine WL.cutV (T := Bool) 5 (fun t => [(27, (bv t))]) (fun t => ((t10.2 == 1) && t30) = t) (fun K => ?_) ?_
  ·
   rcases Bool.eq_false_or_eq_true (t10.2 == 1) with h41 | h41
   ·
    refine WL.setB 25 h41 rfl ?_
    refine sg 5 [] [27] [(27, (bv t30))] (by kernel_rfl) ?_
    exact WL.toV K t30 [27] rfl (by first | (rw [h41]; done) | (rw [h41]; rfl))
   refine WL.setB 25 h41 rfl ?_
   refine sg 5 [] [27] [(27, (bv false))] (by kernel_rfl) ?_
   exact WL.toV K false [27] rfl (by first | (rw [h41]; done) | (rw [h41]; rfl))
  rintro b42 rfl
  refine sg 6 [] [28] [(28, (bv ((t10.2 == 1) && t30)))] (by kernel_rfl) ?_
  obtain ⟨x43, hx44, hf⟩ := bind_some hf
  refine WL.cutW (T := Bool) 8 (fun t => [(30, (bv t))]) (fun t w1 => (St NoS w w1 [rowR enc_Piece Aa ca p0] [] ∧ x43 = t) ∧ CellsOK [] w1) (fun K => ?_) ?_
  ·
   rcases br_some hx44 with ⟨h45, hx44⟩ | ⟨h45, hx44⟩
   ·
    refine WL.setB 28 h45 rfl ?_
    obtain ⟨t46, ht47, hx44⟩ := bind_some hx44
    refine WL.call (some 29) 8 #[] (fun fb => by kernel_rfl) (law07_awake_calls _ t46 _ ht47) (fun v w48 hR49 => ?_)
    obtain ⟨rfl, hk_⟩ := hR49
    have hS50 := hS39.keepN hk_
    refine ⟨trivial, ?_⟩
    refine sg 8 [] [30] [(30, (bv t46))] (by kernel_rfl) ?_
    injection hx44 with hx44
    exact WL.to K t46 [30] rfl ⟨⟨(hS50.subR [0]).sub [] (by decide), hx44.symm⟩, trivial⟩
   refine WL.setB 28 h45 rfl ?_
   refine sg 8 [] [30] [(30, (bv false))] (by kernel_rfl) ?_
   injection hx44 with hx44
   exact WL.to K false [30] rfl ⟨⟨(hS39.subR [0]).sub [] (by decide), hx44.symm⟩, trivial⟩
  rintro y51 w53 ⟨⟨hS54, hq52⟩, hF55⟩
  subst hq52
  refine sg 9 [] [2] [(2, (bv x43))] (by kernel_rfl) ?_
  refine WL.done rfl (WX.next ?_)
  refine WC.ret ?_
  injection hf with hf
  subst hf
  exact WX.thenR (WX.ret_ [] (bv x43) [] (fun fb => by kernel_rfl) trivial ⟨_, rfl, rfl, hS54.keep⟩)
 refine WC.condF2 (fun fb => by kernel_rfl) h40 ?_
 refine WC.skip (WX.next (WC.seq (WC.seq (WC.region ?_))))
 refine sg 1 [] [0, 3, 4, 5, 31] [(0, (sv Aa p0 ca)), (3, (pt g25)), (4, (iv t10.2)), (5, (bv t30)), (31, (sv Aa p0 ca))] (by kernel_rfl) ?_
 obtain ⟨t56, ht57, hf⟩ := bind_some hf
 refine WL.call (some 32) 14 #[(sv Aa p0 ca)] (fun fb => by kernel_rfl) (ref07_Tiles_calls _ p0 Aa ca t56 _ (hS39.rd 0) ht57) (fun v w58 hR59 => ?_)
 obtain ⟨A61, c62, rfl, hk_⟩ := hR59
 have hS60 := hS14.go w58 [rowO 64 enc_Tile A61 c62 t56, blk g25 (.cells #[(.slice A15 t10.1.Values.length c16), (.slice A17 t10.1.Carries.length c18), (.slice A19 t10.1.Factors.length c20), (.slice A21 t10.1.Primes.length c22), (.slice A23 t10.1.Logs.length c24)] 37 (0, 0)), rowO 44 enc_Frac A15 c16 t10.1.Values, rowO 44 enc_Frac A17 c18 t10.1.Carries, rowO 44 enc_Frac A19 c20 t10.1.Factors, rowO 3 encInt A21 c22 t10.1.Primes, rowO 3 encInt A23 c24 t10.1.Logs] (hS39.call hk_ [] [0, 1, 2, 3, 4, 5] (fun g hg => hg.elim) (by simp) (by decide))
 refine ⟨trivial, ?_⟩
 obtain ⟨t63, ht65, hf⟩ := bind_some hf
 refine WL.call (some 33) 15 #[(sv A61 t56 c62)] (fun fb => by kernel_rfl) (ref01_Valid_calls _ t56 A61 c62 t63 _ (hS60.ow 0).ofO ht65) (fun v w66 hR67 => ?_)
 obtain ⟨rfl, hk_⟩ := hR67
 have hS68 := hS60.keepN hk_
 refine ⟨trivial, ?_⟩
 refine sg 4 [] [0, 3, 4, 5, 34] [(0, (sv Aa p0 ca)), (3, (pt g25)), (4, (iv t10.2)), (5, (bv t30)), (34, (bv (!t63)))] (by kernel_rfl) ?_
 refine WL.done rfl (WX.next ?_)
 rcases br_some hf with ⟨h69, hf⟩ | ⟨h69, hf⟩
 ·refine WC.condT2 (fun fb => by kernel_rfl) h69 ?_
  refine WC.seq (WC.region ?_)
  refine sg 3 [] [5, 37] [(5, (bv t30)), (37, (bv (t10.2 == 4)))] (by kernel_rfl) ?_
  refine WL.cutV (T := Bool) 5 (fun t => [(39, (bv t))]) (fun t => ((t10.2 == 4) && t30) = t) (fun K => ?_) ?_
  ·
   rcases Bool.eq_false_or_eq_true (t10.2 == 4) with h70 | h70
   ·
    refine WL.setB 37 h70 rfl ?_
    refine sg 5 [] [39] [(39, (bv t30))] (by kernel_rfl) ?_
    exact WL.toV K t30 [39] rfl (by first | (rw [h70]; done) | (rw [h70]; rfl))
   refine WL.setB 37 h70 rfl ?_
   refine sg 5 [] [39] [(39, (bv false))] (by kernel_rfl) ?_
   exact WL.toV K false [39] rfl (by first | (rw [h70]; done) | (rw [h70]; rfl))
  rintro b71 rfl
  refine sg 6 [] [40] [(40, (bv ((t10.2 == 4) && t30)))] (by kernel_rfl) ?_
  obtain ⟨x72, hx73, hf⟩ := bind_some hf
  refine WL.cutW (T := Bool) 8 (fun t => [(42, (bv t))]) (fun t w1 => (St NoS w w1 [rowR enc_Piece Aa ca p0] [] ∧ x72 = t) ∧ CellsOK [] w1) (fun K => ?_) ?_
  ·
   rcases br_some hx73 with ⟨h74, hx73⟩ | ⟨h74, hx73⟩
   ·
    refine WL.setB 40 h74 rfl ?_
    obtain ⟨t75, ht76, hx73⟩ := bind_some hx73
    refine WL.call (some 41) 8 #[] (fun fb => by kernel_rfl) (law07_awake_calls _ t75 _ ht76) (fun v w77 hR78 => ?_)
    obtain ⟨rfl, hk_⟩ := hR78
    have hS79 := hS68.keepN hk_
    refine ⟨trivial, ?_⟩
    refine sg 8 [] [42] [(42, (bv t75))] (by kernel_rfl) ?_
    injection hx73 with hx73
    exact WL.to K t75 [42] rfl ⟨⟨(hS79.subR [0]).sub [] (by decide), hx73.symm⟩, trivial⟩
   refine WL.setB 40 h74 rfl ?_
   refine sg 8 [] [42] [(42, (bv false))] (by kernel_rfl) ?_
   injection hx73 with hx73
   exact WL.to K false [42] rfl ⟨⟨(hS68.subR [0]).sub [] (by decide), hx73.symm⟩, trivial⟩
  rintro y80 w82 ⟨⟨hS83, hq81⟩, hF84⟩
  subst hq81
  refine sg 9 [] [2] [(2, (bv x72))] (by kernel_rfl) ?_
  refine WL.done rfl (WX.next ?_)
  refine WC.ret ?_
  injection hf with hf
  subst hf
  exact WX.thenR (WX.ret_ [] (bv x72) [] (fun fb => by kernel_rfl) trivial ⟨_, rfl, rfl, hS83.keep⟩)
 refine WC.condF2 (fun fb => by kernel_rfl) h69 ?_
 refine WC.skip (WX.next (WC.seq (WC.region ?_)))
 refine sg 1 [] [3, 4, 5, 44] [(3, (pt g25)), (4, (iv t10.2)), (5, (bv t30)), (44, (sv Aa p0 ca))] (by kernel_rfl) ?_
 obtain ⟨t85, ht86, hf⟩ := bind_some hf
 refine WL.call (some 45) 19 #[(sv Aa p0 ca)] (fun fb => by kernel_rfl) (ref07_Weigh_calls _ p0 Aa ca t85 _ (hS68.rd 0) ht86) (fun v w87 hR88 => ?_)
 obtain ⟨A90, c91, A92, c93, A94, c95, A96, c97, A98, c99, rfl, hk_⟩ := hR88
 have hS89 := hS60.go w87 [rowO 44 enc_Frac A90 c91 t85.1.Values, rowO 44 enc_Frac A92 c93 t85.1.Carries, rowO 44 enc_Frac A94 c95 t85.1.Factors, rowO 3 encInt A96 c97 t85.1.Primes, rowO 3 encInt A98 c99 t85.1.Logs, rowO 64 enc_Tile A61 c62 t56, blk g25 (.cells #[(.slice A15 t10.1.Values.length c16), (.slice A17 t10.1.Carries.length c18), (.slice A19 t10.1.Factors.length c20), (.slice A21 t10.1.Primes.length c22), (.slice A23 t10.1.Logs.length c24)] 37 (0, 0)), rowO 44 enc_Frac A15 c16 t10.1.Values, rowO 44 enc_Frac A17 c18 t10.1.Carries, rowO 44 enc_Frac A19 c20 t10.1.Factors, rowO 3 encInt A21 c22 t10.1.Primes, rowO 3 encInt A23 c24 t10.1.Logs] (hS68.call hk_ [] [0, 1, 2, 3, 4, 5, 6] (fun g hg => hg.elim) (by simp) (by decide))
 refine ⟨trivial, ?_⟩
 refine sg 5 [] [3, 4, 5, 46, 47] [(3, (pt g25)), (4, (iv t10.2)), (5, (bv t30)), (46, (.agg #[(sv A90 t85.1.Values c91), (sv A92 t85.1.Carries c93), (sv A94 t85.1.Factors c95), (sv A96 t85.1.Primes c97), (sv A98 t85.1.Logs c99)])), (47, (bv t85.2))] (by kernel_rfl) ?_
 refine WL.new hS89 6 [] (fun g => (pt g)) (.cells #[(.slice none 0 0), (.slice none 0 0), (.slice none 0 0), (.slice none 0 0), (.slice none 0 0)] 37 (0, 0)) [] (fun fb g => by kernel_rfl) trivial (fun g100 w101 hS102 => ?_)
 refine ⟨trivial, ?_⟩
 refine WL.store hS102 0 rfl [(0, (sv A90 t85.1.Values c91)), (1, (sv A92 t85.1.Carries c93)), (2, (sv A94 t85.1.Factors c95)), (3, (sv A96 t85.1.Primes c97)), (4, (sv A98 t85.1.Logs c99))] #[(sv A90 t85.1.Values c91), (sv A92 t85.1.Carries c93), (sv A94 t85.1.Factors c95), (sv A96 t85.1.Primes c97), (sv A98 t85.1.Logs c99)] (fun fb => by kernel_rfl) (by kernel_rfl) rfl [1, 2, 3, 4, 5, 6, 7, 8, 9, 10, 11, 12] (by decide) (by decide) (fun w103 hS104 => ?_)
 refine ⟨trivial, ?_⟩
 refine sg 8 [] [3, 4, 5, 6, 7] [(3, (pt g25)), (4, (iv t10.2)), (5, (bv t30)), (6, (pt g100)), (7, (bv t85.2))] (by kernel_rfl) ?_
 refine WL.done rfl (WX.next (WC.seq (WC.seq (WC.region ?_))))
 refine sg 2 [] [3, 4, 5, 6, 49] [(3, (pt g25)), (4, (iv t10.2)), (5, (bv t30)), (6, (pt g100)), (49, (bv (!t85.2)))] (by kernel_rfl) ?_
 refine WL.done rfl (WX.next ?_)
 rcases br_some hf with ⟨h105, hf⟩ | ⟨h105, hf⟩
 ·refine WC.condT2 (fun fb => by kernel_rfl) h105 ?_
  refine WC.seq (WC.region ?_)
  refine sg 3 [] [5, 52] [(5, (bv t30)), (52, (bv (t10.2 == 6)))] (by kernel_rfl) ?_
  refine WL.cutV (T := Bool) 5 (fun t => [(54, (bv t))]) (fun t => ((t10.2 == 6) && t30) = t) (fun K => ?_) ?_
  ·
   rcases Bool.eq_false_or_eq_true (t10.2 == 6) with h106 | h106
   ·
    refine WL.setB 52 h106 rfl ?_
    refine sg 5 [] [54] [(54, (bv t30))] (by kernel_rfl) ?_
    exact WL.toV K t30 [54] rfl (by first | (rw [h106]; done) | (rw [h106]; rfl))
   refine WL.setB 52 h106 rfl ?_
   refine sg 5 [] [54] [(54, (bv false))] (by kernel_rfl) ?_
   exact WL.toV K false [54] rfl (by first | (rw [h106]; done) | (rw [h106]; rfl))
  rintro b107 rfl
  refine sg 6 [] [55] [(55, (bv ((t10.2 == 6) && t30)))] (by kernel_rfl) ?_
  obtain ⟨x108, hx109, hf⟩ := bind_some hf
  refine WL.cutW (T := Bool) 8 (fun t => [(57, (bv t))]) (fun t w1 => (St NoS w w1 [rowR enc_Piece Aa ca p0] [] ∧ x108 = t) ∧ CellsOK [] w1) (fun K => ?_) ?_
  ·
   rcases br_some hx109 with ⟨h110, hx109⟩ | ⟨h110, hx109⟩
   ·
    refine WL.setB 55 h110 rfl ?_
    obtain ⟨t111, ht112, hx109⟩ := bind_some hx109
    refine WL.call (some 56) 8 #[] (fun fb => by kernel_rfl) (law07_awake_calls _ t111 _ ht112) (fun v w113 hR114 => ?_)
    obtain ⟨rfl, hk_⟩ := hR114
    have hS115 := hS104.keepN hk_
    refine ⟨trivial, ?_⟩
    refine sg 8 [] [57] [(57, (bv t111))] (by kernel_rfl) ?_
    injection hx109 with hx109
    exact WL.to K t111 [57] rfl ⟨⟨(hS115.subR [0]).sub [] (by decide), hx109.symm⟩, trivial⟩
   refine WL.setB 55 h110 rfl ?_
   refine sg 8 [] [57] [(57, (bv false))] (by kernel_rfl) ?_
   injection hx109 with hx109
   exact WL.to K false [57] rfl ⟨⟨(hS104.subR [0]).sub [] (by decide), hx109.symm⟩, trivial⟩
  rintro y116 w118 ⟨⟨hS119, hq117⟩, hF120⟩
  subst hq117
  refine sg 9 [] [2] [(2, (bv x108))] (by kernel_rfl) ?_
  refine WL.done rfl (WX.next ?_)
  refine WC.ret ?_
  injection hf with hf
  subst hf
  exact WX.thenR (WX.ret_ [] (bv x108) [] (fun fb => by kernel_rfl) trivial ⟨_, rfl, rfl, hS119.keep⟩)
 refine WC.condF2 (fun fb => by kernel_rfl) h105 ?_
 refine WC.skip (WX.next (WC.seq (WC.region ?_)))
 refine sg 3 [] [3, 6, 60] [(3, (pt g25)), (6, (pt g100)), (60, (bv (t10.2 == 0)))] (by kernel_rfl) ?_
 obtain ⟨x121, hx122, hf⟩ := bind_some hf
 let e1 : Array Value := #[(sv A15 t10.1.Values c16), (sv A17 t10.1.Carries c18), (sv A19 t10.1.Factors c20), (sv A21 t10.1.Primes c22), (sv A23 t10.1.Logs c24)]
 let e2 : Array Value := #[(sv A90 t85.1.Values c91), (sv A92 t85.1.Carries c93), (sv A94 t85.1.Factors c95), (sv A96 t85.1.Primes c97), (sv A98 t85.1.Logs c99)]
 refine WL.cutW (T := Bool) 7 (fun t => [(64, (bv t))]) (fun t w1 => (St NoS w w1 [rowR enc_Piece Aa ca p0] [] ∧ x121 = t) ∧ CellsOK [] w1) (fun K => ?_) ?_
 ·
  rcases br_some hx122 with ⟨h123, hx122⟩ | ⟨h123, hx122⟩
  ·
   refine WL.setB 60 h123 rfl ?_
   refine seg 5 [.v (sv A15 t10.1.Values c16), .v (sv A17 t10.1.Carries c18), .v (sv A19 t10.1.Factors c20), .v (sv A21 t10.1.Primes c22), .v (sv A23 t10.1.Logs c24), .v (sv A90 t85.1.Values c91), .v (sv A92 t85.1.Carries c93), .v (sv A94 t85.1.Factors c95), .v (sv A96 t85.1.Primes c97), .v (sv A98 t85.1.Logs c99)] [60, 61, 62] [(60, (bv true)), (61, (.agg e1)), (62, (.agg e2))] [.cell ⟨g25, 0, none⟩ (sv A15 t10.1.Values c16), .cell ⟨g25, 1, none⟩ (sv A17 t10.1.Carries c18), .cell ⟨g25, 2, none⟩ (sv A19 t10.1.Factors c20), .cell ⟨g25, 3, none⟩ (sv A21 t10.1.Primes c22), .cell ⟨g25, 4, none⟩ (sv A23 t10.1.Logs c24), .cell ⟨g100, 0, none⟩ (sv A90 t85.1.Values c91), .cell ⟨g100, 1, none⟩ (sv A92 t85.1.Carries c93), .cell ⟨g100, 2, none⟩ (sv A94 t85.1.Factors c95), .cell ⟨g100, 3, none⟩ (sv A96 t85.1.Primes c97), .cell ⟨g100, 4, none⟩ (sv A98 t85.1.Logs c99)] (fun fb => by kernel_rfl) rfl ⟨hS104.cell 7 rfl 0 rfl, hS104.cell 7 rfl 1 rfl, hS104.cell 7 rfl 2 rfl, hS104.cell 7 rfl 3 rfl, hS104.cell 7 rfl 4 rfl, hS104.cell 0 rfl 0 rfl, hS104.cell 0 rfl 1 rfl, hS104.cell 0 rfl 2 rfl, hS104.cell 0 rfl 3 rfl, hS104.cell 0 rfl 4 rfl, trivial⟩ ?_
   obtain ⟨t124, ht125, hx122⟩ := bind_some hx122
   refine WL.call (some 63) 18 #[(.agg e1), (.agg e2)] (fun fb => by kernel_rfl) (ref07_SameWeights_calls _ t10.1 t85.1 A15 c16 A17 c18 A19 c20 A21 c22 A23 c24 A90 c91 A92 c93 A94 c95 A96 c97 A98 c99 t124 _ (hS104.ow 8).ofO (hS104.ow 9).ofO (hS104.ow 10).ofO (hS104.ow 11).ofO (hS104.ow 12).ofO (hS104.ow 1).ofO (hS104.ow 2).ofO (hS104.ow 3).ofO (hS104.ow 4).ofO (hS104.ow 5).ofO ht125) (fun v w126 hR127 => ?_)
   obtain ⟨rfl, hk_⟩ := hR127
   have hS128 := hS104.keepN hk_
   refine ⟨trivial, ?_⟩
   refine sg 7 [] [64] [(64, (bv t124))] (by kernel_rfl) ?_
   injection hx122 with hx122
   exact WL.to K t124 [64] rfl ⟨⟨(hS128.subR [0]).sub [] (by decide), hx122.symm⟩, trivial⟩
  refine WL.setB 60 h123 rfl ?_
  refine sg 7 [] [64] [(64, (bv false))] (by kernel_rfl) ?_
  injection hx122 with hx122
  exact WL.to K false [64] rfl ⟨⟨(hS104.subR [0]).sub [] (by decide), hx122.symm⟩, trivial⟩
 rintro y129 w131 ⟨⟨hS132, hq130⟩, hF133⟩
 subst hq130
 refine sg 8 [] [65] [(65, (bv x121))] (by kernel_rfl) ?_
 obtain ⟨x134, hx135, hf⟩ := bind_some hf
 refine WL.cutW (T := Bool) 10 (fun t => [(67, (bv t))]) (fun t w1 => (St NoS w w1 [rowR enc_Piece Aa ca p0] [] ∧ x134 = t) ∧ CellsOK [] w1) (fun K => ?_) ?_
 ·
  rcases br_some hx135 with ⟨h136, hx135⟩ | ⟨h136, hx135⟩
  ·
   refine WL.setB 65 h136 rfl ?_
   obtain ⟨t137, ht138, hx135⟩ := bind_some hx135
   refine WL.call (some 66) 8 #[] (fun fb => by kernel_rfl) (law07_awake_calls _ t137 _ ht138) (fun v w139 hR140 => ?_)
   obtain ⟨rfl, hk_⟩ := hR140
   have hS141 := hS132.keepN hk_
   refine ⟨trivial, ?_⟩
   refine sg 10 [] [67] [(67, (bv t137))] (by kernel_rfl) ?_
   injection hx135 with hx135
   exact WL.to K t137 [67] rfl ⟨⟨(hS141.subR [0]).sub [] (by decide), hx135.symm⟩, trivial⟩
  refine WL.setB 65 h136 rfl ?_
  refine sg 10 [] [67] [(67, (bv false))] (by kernel_rfl) ?_
  injection hx135 with hx135
  exact WL.to K false [67] rfl ⟨⟨(hS132.subR [0]).sub [] (by decide), hx135.symm⟩, trivial⟩
 rintro y142 w144 ⟨⟨hS145, hq143⟩, hF146⟩
 subst hq143
 refine sg 11 [] [2] [(2, (bv x134))] (by kernel_rfl) ?_
 refine WL.done rfl (WX.next ?_)
 refine WC.ret ?_
 injection hf with hf
 subst hf
 exact WX.ret_ [] (bv x134) [] (fun fb => by kernel_rfl) trivial ⟨_, rfl, rfl, hS145.keep⟩
end Gp
