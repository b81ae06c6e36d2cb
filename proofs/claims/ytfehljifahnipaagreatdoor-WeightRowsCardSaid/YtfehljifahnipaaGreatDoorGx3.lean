/- Walks: each function of the program computes its plain function. -/
import Derived.Test.YtfehljifahnipaaGreatDoorGx2
set_option linter.unusedVariables false
set_option linter.unusedSimpArgs false
set_option maxHeartbeats 4000000
set_option maxRecDepth 8000
namespace Gp
open Go Gw Go.Proofs
theorem weight_Check_2_key3 : KeyK Tryz.prog 3 (vI .i64) := KeyK.int (by kernel_rfl)
theorem weight_Check_2_calls (k : Nat) (f0 : List Tile) (f1 : Weights) (ga : Nat) (Aa : Option Addr) (ca : Nat) (gb : Nat) (Ab : Option Addr) (cb : Nat) (Ac : Option Addr) (cc : Nat) (Ad : Option Addr) (cd : Nat) (Ae : Option Addr) (ce : Nat) (Af : Option Addr) (cf : Nat) (r : Bool) (w : World) (hR0 : RO NoS w (blk ga (.cells #[(sv Aa f0 ca)] 22 (0, 0)))) (hR1 : RO NoS w (rowR enc_Tile Aa ca f0)) (hR2 : RO NoS w (blk gb (.cells #[(sv Ab f1.Values cb), (sv Ac f1.Carries cc), (sv Ad f1.Factors cd), (sv Ae f1.Primes ce), (sv Af f1.Logs cf)] 26 (0, 0)))) (hR3 : RO NoS w (rowR enc_Frac Ab cb f1.Values)) (hR4 : RO NoS w (rowR enc_Frac Ac cc f1.Carries)) (hR5 : RO NoS w (rowR enc_Frac Ad cd f1.Factors)) (hR6 : RO NoS w (rowR encInt Ae ce f1.Primes)) (hR7 : RO NoS w (rowR encInt Af cf f1.Logs)) (hf : weight_Check_2 k f0 f1 = some r) :
  CallsR Tryz.prog 29 #[(pt ga), (pt gb)] w (fun v w' => v = (bv r) ∧ Keeps NoS w w') := by
 have hS : St NoS w w [blk ga (.cells #[(sv Aa f0 ca)] 22 (0, 0)), rowR enc_Tile Aa ca f0, blk gb (.cells #[(sv Ab f1.Values cb), (sv Ac f1.Carries cc), (sv Ad f1.Factors cd), (sv Ae f1.Primes ce), (sv Af f1.Logs cf)] 26 (0, 0)), rowR enc_Frac Ab cb f1.Values, rowR enc_Frac Ac cc f1.Carries, rowR enc_Frac Ad cd f1.Factors, rowR encInt Ae ce f1.Primes, rowR encInt Af cf f1.Logs] [] := St.init (ro_cons hR0 (ro_cons hR1 (ro_cons hR2 (ro_cons hR3 (ro_cons hR4 (ro_cons hR5 (ro_cons hR6 (ro_cons hR7 (ro_nil _ _)))))))))
 refine enter 87 Tryz.func29 rfl Tryz.ntmps29 rfl ?_
 unfold weight_Check_2 at hf
 refine WC.seq (WC.region ?_)
 refine sg 1 [] [0, 1] [(0, (pt ga)), (1, (pt gb))] (by kernel_rfl) ?_
 refine WL.done rfl (WX.next (WC.seq (WC.region ?_)))
 refine WL.new hS 14 [] (fun g => (.map (some g))) (mapObj (vI .i64) (aggI ints_Frac) ([] : List (Int × Frac))) [] (fun fb g => by kernel_rfl) trivial (fun g8 w9 hS10 => ?_)
 refine ⟨trivial, ?_⟩
 refine sg 2 [] [0, 1, 3] [(0, (pt ga)), (1, (pt gb)), (3, (.map (some g8)))] (by kernel_rfl) ?_
 refine WL.done rfl (WX.next (WC.seq (WC.seq (WC.region ?_))))
 refine seg 3 [.v (sv Aa f0 ca)] [0, 1, 3, 15, 16, 17] [(0, (pt ga)), (1, (pt gb)), (3, (.map (some g8))), (15, (sv Aa f0 ca)), (16, (iv (f0.length : Int))), (17, (iv 0))] [.cell ⟨ga, 0, none⟩ (sv Aa f0 ca)] (fun fb => by kernel_rfl) rfl ⟨blk_cell (hS10.rd 0).1 0 rfl, trivial⟩ ?_
 refine WL.done rfl (WX.next ?_)
 obtain ⟨x13, hx14, hf⟩ := bind_some hf
 let e3 : Nat × Value := (16, (iv (f0.length : Int)))
 let e4 : Array Value := #[(sv Ab f1.Values cb), (sv Ac f1.Carries cc), (sv Ad f1.Factors cd), (sv Ae f1.Primes ce), (sv Af f1.Logs cf)]
 let e8 := sv Aa f0 ca
 let e13 : List Nat := [0, 1, 2, 3, 4, 5, 6, 7]
 let e16 : Nat × Value := (0, (pt ga))
 let e17 : Nat × Value := (1, (pt gb))
 let e21 := [[], [0], [0, 1], [0, 1], [0, 1, 3], [0, 1], [0, 1, 3, 4, 5], [0, 1, 3, 4, 5, 6], e13, [0, 1, 2, 3, 4, 5, 6, 7, 8], [0, 1, 2, 3, 4, 5, 6, 7, 8, 9]]
 let e23 : Nat × Value := (41, (iv (f0.length : Int)))
 let e26 : List Nat := [0, 1, 3, 4, 5, 15, 16, 17, 40, 41, 42]
 let e28 := aggI ints_Frac
 let e32 : Nat × Addr × Value := (4, ⟨gb, 2, none⟩, (sv Ad f1.Factors cd))
 let e33 : List Nat := [0, 1, 3, 4, 5, 15, 16, 17, 39]
 refine WC.cutN (T := (List (Int × Frac))) (fun t => [e16, e17, (3, (.map (some g8)))]) (fun t w1 => St NoS w w1 [blk ga (.cells #[e8] 22 (0, 0)), rowR enc_Tile Aa ca f0, blk gb (.cells e4 26 (0, 0)), rowR enc_Frac Ab cb f1.Values, rowR enc_Frac Ac cc f1.Carries, rowR enc_Frac Ad cd f1.Factors, rowR encInt Ae ce f1.Primes, rowR encInt Af cf f1.Logs] [blk g8 (mapObj (vI .i64) e28 t)] ∧ x13 = .inr t) (fun Kx13 => ?_) ?_
 ·
  refine WC.block ?_
  refine WC.loop (T := (List (Int × Frac)) × Int) (fun t => [e16, e17, (3, (.map (some g8))), (15, e8), e3, (17, (iv t.2))]) (fun n t w1 => St NoS w w1 [blk ga (.cells #[e8] 22 (0, 0)), rowR enc_Tile Aa ca f0, blk gb (.cells e4 26 (0, 0)), rowR enc_Frac Ab cb f1.Values, rowR enc_Frac Ac cc f1.Carries, rowR enc_Frac Ad cd f1.Factors, rowR encInt Ae ce f1.Primes, rowR encInt Af cf f1.Logs] [blk g8 (mapObj (vI .i64) e28 t.1)] ∧ weight_Check_2.l0 n t.1 t.2 f0 f1 = some x13) k (([] : List (Int × Frac)), 0) [0, 1, 3, 15, 16, 17] rfl ⟨(hS10.subR e13).sub [0] (by decide), hx14⟩ ?_
  rintro k15 ⟨l11, x12⟩ w16 ⟨hS17, hl18⟩
  let e1 := rdD f0 x12 z_Tile
  let e5 := rdD f1.Factors x12 z_Frac
  let e6 := mget (e1.W) z_Frac l11
  let e11 : Array Value := #[(iv (e1.N)), (iv (e1.E)), (iv (e1.S)), (iv (e1.W))]
  let e15 : Nat × Value := (17, (iv x12))
  let e19 : Nat × Value := (4, (iv x12))
  let e20 := (adr Ad).add ((x12).toNat * 2)
  let e24 : Array Value := #[(iv (e6.Num)), (iv (e6.Den))]
  let e29 := iv (e1.W)
  let e30 := (adr Aa).add ((x12).toNat * 4)
  let e35 := bv (mhas (e1.W) l11)
  let e37 := iv (e5.Num)
  let e38 := iv (e5.Den)
  cases k15 with
  | zero => rw [weight_Check_2.l0] at hl18; cases hl18
  | succ k15 =>
   rw [weight_Check_2.l0] at hl18
   refine WC.seq (WC.region ?_)
   refine sg 1 [] [0, 1, 3, 15, 16, 17, 18] [e16, e17, (3, (.map (some g8))), (15, e8), e3, e15, (18, (bv (decide (x12 < (f0.length : Int)))))] (by kernel_rfl) ?_
   refine WL.done rfl (WX.next (WC.seq ?_))
   rcases br_some hl18 with ⟨h19, hl18⟩ | ⟨h19, hl18⟩
   ·refine WC.condT2 (fun fb => by kernel_rfl) h19 ?_
    refine WC.skip (WX.next (WC.seq (WC.block (WC.seq (WC.region ?_)))))
    refine sg 1 [] [0, 1, 3, 15, 16, 17, 19] [e16, e17, (3, (.map (some g8))), (15, e8), e3, e15, (19, (iv x12))] (by kernel_rfl) ?_
    obtain ⟨h20, hl18⟩ := as_some hl18
    refine seg 3 [.v (iv (e1.N)), .v (iv (e1.E)), .v (iv (e1.S)), .v e29] [0, 1, 3, 15, 16, 17, 19, 21] [e16, e17, (3, (.map (some g8))), (15, e8), e3, e15, (19, (iv x12)), (21, (.agg e11))] [.idx Aa x12 f0.length, .cell e30 (iv (e1.N)), .cell (e30.add 1) (iv (e1.E)), .cell (e30.add 2) (iv (e1.S)), .cell (e30.add 3) e29] (fun fb => by kernel_rfl) rfl ⟨rowR.adr (hS17.rd 1).1 h20.1 h20.2, rowR.cell (hS17.rd 1).1 z_Tile h20.1 h20.2 0 rfl, rowR.cell (hS17.rd 1).1 z_Tile h20.1 h20.2 1 rfl, rowR.cell (hS17.rd 1).1 z_Tile h20.1 h20.2 2 rfl, rowR.cell (hS17.rd 1).1 z_Tile h20.1 h20.2 3 rfl, trivial⟩ ?_
    refine WL.new hS17 5 [] (fun g => (pt g)) (.cells #[(iv 0), (iv 0), (iv 0), (iv 0)] 44 (0, 0)) [] (fun fb g => by kernel_rfl) trivial (fun g21 w22 hS23 => ?_)
    refine ⟨trivial, ?_⟩
    refine sg 5 [] [0, 1, 3, 4, 5, 15, 16, 17, 21] [e16, e17, (3, (.map (some g8))), e19, (5, (pt g21)), (15, e8), e3, e15, (21, (.agg e11))] (by kernel_rfl) ?_
    refine WL.store hS23 0 rfl [(0, (iv (e1.N))), (1, (iv (e1.E))), (2, (iv (e1.S))), (3, e29)] e11 (fun fb => by kernel_rfl) (by kernel_rfl) rfl [1] (by decide) (by decide) (fun w24 hS25 => ?_)
    refine ⟨trivial, ?_⟩
    refine WL.done rfl (WX.next (WC.seq (WC.seq (WC.region ?_))))
    refine seg 3 [.v e29] [0, 1, 3, 4, 5, 15, 16, 17, 23, 25] [e16, e17, (3, (.map (some g8))), e19, (5, (pt g21)), (15, e8), e3, e15, (23, (.map (some g8))), (25, e29)] [.cell ⟨g21, 3, none⟩ e29] (fun fb => by kernel_rfl) rfl ⟨hS25.cell 0 rfl 3 rfl, trivial⟩ ?_
    refine WL.lookup (hS25.own 1).1 (e1.W) (d := 26) (c := true) (t := 59) (kT := 3) (eT := 33) (z := z_Frac) (kE := (vI .i64)) (vE := e28) (l := l11) (.tuple #[(.agg e24), e35]) (fun fb => by kernel_rfl) weight_Check_2_key3 (by kernel_rfl) (fun _ => by kernel_rfl) rfl ?_
    refine ⟨trivial, ?_⟩
    refine sg 7 [] [0, 1, 3, 4, 5, 15, 16, 17, 27, 28] [e16, e17, (3, (.map (some g8))), e19, (5, (pt g21)), (15, e8), e3, e15, (27, (.agg e24)), (28, e35)] (by kernel_rfl) ?_
    refine WL.new hS25 6 [] (fun g => (pt g)) (.cells #[(iv 0), (iv 0)] 33 (0, 0)) [] (fun fb g => by kernel_rfl) trivial (fun g26 w27 hS28 => ?_)
    refine ⟨trivial, ?_⟩
    refine WL.store hS28 0 rfl [(0, (iv (e6.Num))), (1, (iv (e6.Den)))] e24 (fun fb => by kernel_rfl) (by kernel_rfl) rfl [1, 2] (by decide) (by decide) (fun w30 hS31 => ?_)
    refine ⟨trivial, ?_⟩
    refine sg 10 [] [0, 1, 3, 4, 5, 6, 7, 15, 16, 17] [e16, e17, (3, (.map (some g8))), e19, (5, (pt g21)), (6, (pt g26)), (7, e35), (15, e8), e3, e15] (by kernel_rfl) ?_
    refine WL.done rfl (WX.next (WC.seq ?_))
    obtain ⟨x32, hx33, hl18⟩ := bind_some hl18
    let e14 : List (Nat × Addr × Value) := [(2, ⟨g26, 0, none⟩, (iv (e6.Num))), (2, ⟨g26, 1, none⟩, (iv (e6.Den))), e32, (7, e20, e37), (7, (e20.add 1), e38)]
    refine WC.cutN (T := Bool) (fun t => [e16, e17, (3, (.map (some g8))), e19, (5, (pt g21)), (15, e8), e3, e15, (39, (bv t))]) (fun t w1 => St NoS w w1 [blk ga (.cells #[e8] 22 (0, 0)), rowR enc_Tile Aa ca f0, blk gb (.cells e4 26 (0, 0)), rowR enc_Frac Ab cb f1.Values, rowR enc_Frac Ac cc f1.Carries, rowR enc_Frac Ad cd f1.Factors, rowR encInt Ae ce f1.Primes, rowR encInt Af cf f1.Logs] [blk g8 (mapObj (vI .i64) e28 l11), blk g21 (.cells e11 44 (0, 0))] ∧ x32 = t) (fun Kx32 => ?_) ?_
    ·
     rcases br_some hx33 with ⟨h34, hx33⟩ | ⟨h34, hx33⟩
     ·
      obtain ⟨h37, hx33⟩ := as_some hx33
      refine WC.regionD (e14, [0, 1, 2, 3, 4, 5, 6, 7, 9, 10], e21) [[0, 1, 2, 3, 4, 5, 6, 7, 8, 9, 10]] (by kernel_rfl) (by kernel_rfl) (NoPanic.seq (NoPanic.seq (NoPanic.block (NoPanic.seq (NoPanic.seq (NoPanic.block (NoPanic.seq (NoPanic.body)))))))) ?_
      have hS36 := hS31.drew
      revert hS36
      generalize World.drew w30 = w35
      intro hS36
      refine ⟨⟨hS36.cell 0 rfl 0 rfl, hS36.cell 0 rfl 1 rfl, blk_cell (hS36.rd 2).1 2 rfl, rowR.cell (hS36.rd 5).1 z_Frac h37.1 h37.2 0 rfl, rowR.cell (hS36.rd 5).1 z_Frac h37.1 h37.2 1 rfl, trivial⟩, forallC ?_ (forallN)⟩
      refine sg 2 [] [0, 1, 3, 4, 5, 6, 15, 16, 17, 30] [e16, e17, (3, (.map (some g8))), e19, (5, (pt g21)), (6, (pt g26)), (15, e8), e3, e15, (30, e35)] (by kernel_rfl) ?_
      refine WL.setB 30 h34 rfl ?_
      refine segF 8 [.v (iv (e6.Num)), .v (iv (e6.Den)), .v (sv Ad f1.Factors cd), .v e37, .v e38] [0, 1, 3, 4, 5, 15, 16, 17, 30, 31, 36] [e16, e17, (3, (.map (some g8))), e19, (5, (pt g21)), (15, e8), e3, e15, (30, (bv true)), (31, (.agg e24)), (36, (.agg #[e37, e38]))] [.idx Ad x12 f1.Factors.length] [0, 1, 2, 3, 4] e14 (fun fb => by kernel_rfl) rfl ⟨rowR.adr (hS36.rd 5).1 h37.1 h37.2, trivial⟩ rfl ?_
      obtain ⟨t38, ht39, hx33⟩ := bind_some hx33
      refine WL.call (some 37) 30 #[(.agg e24), (.agg #[e37, e38])] (fun fb => by kernel_rfl) (weight_equal_calls e6 e5 t38 _ ht39) (fun v w40 hR41 => ?_)
      obtain ⟨rfl, hk_⟩ := hR41
      have hS42 := hS36.keepN hk_
      refine ⟨trivial, ?_⟩
      refine sg 11 [] e33 [e16, e17, (3, (.map (some g8))), e19, (5, (pt g21)), (15, e8), e3, e15, (39, (bv (!t38)))] (by kernel_rfl) ?_
      refine WL.done rfl ?_
      injection hx33 with hx33
      exact WX.to Kx32 (!t38) e33 rfl ⟨(hS42.subR e13).sub [2, 1] (by decide), hx33.symm⟩
     refine WC.regionD ([], [0, 1, 2, 3, 4, 5, 6, 7, 9, 10], e21) [[0, 1, 2, 3, 4, 5, 6, 7, 8, 9, 10]] (by kernel_rfl) (by kernel_rfl) (NoPanic.seq (NoPanic.seq (NoPanic.block (NoPanic.seq (NoPanic.seq (NoPanic.block (NoPanic.seq (NoPanic.body)))))))) ?_
     have hS44 := hS31.drew
     revert hS44
     generalize World.drew w30 = w43
     intro hS44
     refine ⟨trivial, forallC ?_ (forallN)⟩
     refine sg 2 [] [0, 1, 3, 4, 5, 6, 15, 16, 17, 30] [e16, e17, (3, (.map (some g8))), e19, (5, (pt g21)), (6, (pt g26)), (15, e8), e3, e15, (30, e35)] (by kernel_rfl) ?_
     refine WL.setB 30 h34 rfl ?_
     refine sg 11 [] e33 [e16, e17, (3, (.map (some g8))), e19, (5, (pt g21)), (15, e8), e3, e15, (39, (bv false))] (by kernel_rfl) ?_
     refine WL.done rfl ?_
     injection hx33 with hx33
     exact WX.to Kx32 false e33 rfl ⟨(hS44.subR e13).sub [2, 1] (by decide), hx33.symm⟩
    rintro y48 w45 ⟨hS46, hq47⟩
    subst hq47
    refine WX.next ?_
    obtain ⟨x49, hx50, hl18⟩ := bind_some hl18
    let e39 : Nat × Value := (5, (pt g21))
    refine WC.cutN (T := Unit) (fun t => [e16, e17, (3, (.map (some g8))), e19, e39, (15, e8), e3, e15]) (fun t w1 => St NoS w w1 [blk ga (.cells #[e8] 22 (0, 0)), rowR enc_Tile Aa ca f0, blk gb (.cells e4 26 (0, 0)), rowR enc_Frac Ab cb f1.Values, rowR enc_Frac Ac cc f1.Carries, rowR enc_Frac Ad cd f1.Factors, rowR encInt Ae ce f1.Primes, rowR encInt Af cf f1.Logs] [blk g8 (mapObj (vI .i64) e28 l11), blk g21 (.cells e11 44 (0, 0))] ∧ x49 = .inr t) (fun Kx49 => ?_) ?_
    ·
     rcases br_some hx50 with ⟨h51, hx50⟩ | ⟨h51, hx50⟩
     ·refine WC.condT2 (fun fb => by kernel_rfl) h51 ?_
      refine WC.seq (WC.region ?_)
      refine seg 3 [.v e8] e26 [e16, e17, (3, (.map (some g8))), e19, e39, (15, e8), e3, e15, (40, e8), e23, (42, (iv 0))] [.cell ⟨ga, 0, none⟩ e8] (fun fb => by kernel_rfl) rfl ⟨blk_cell (hS46.rd 0).1 0 rfl, trivial⟩ ?_
      refine WL.done rfl (WX.next ?_)
      obtain ⟨x53, hx54, hx50⟩ := bind_some hx50
      refine WC.cutN (T := Unit) (fun t => [e16, e17, (3, (.map (some g8))), e19, e39, (15, e8), e3, e15]) (fun t w1 => St NoS w w1 [blk ga (.cells #[e8] 22 (0, 0)), rowR enc_Tile Aa ca f0, blk gb (.cells e4 26 (0, 0)), rowR enc_Frac Ab cb f1.Values, rowR enc_Frac Ac cc f1.Carries, rowR enc_Frac Ad cd f1.Factors, rowR encInt Ae ce f1.Primes, rowR encInt Af cf f1.Logs] [blk g8 (mapObj (vI .i64) e28 l11), blk g21 (.cells e11 44 (0, 0))] ∧ x53 = .inr t) (fun Kx53 => ?_) ?_
      ·
       refine WC.block ?_
       refine WC.loop (T := Int) (fun t => [e16, e17, (3, (.map (some g8))), e19, e39, (15, e8), e3, e15, (40, e8), e23, (42, (iv t))]) (fun n t w1 => St NoS w w1 [blk ga (.cells #[e8] 22 (0, 0)), rowR enc_Tile Aa ca f0, blk gb (.cells e4 26 (0, 0)), rowR enc_Frac Ab cb f1.Values, rowR enc_Frac Ac cc f1.Carries, rowR enc_Frac Ad cd f1.Factors, rowR encInt Ae ce f1.Primes, rowR encInt Af cf f1.Logs] [blk g8 (mapObj (vI .i64) e28 l11), blk g21 (.cells e11 44 (0, 0))] ∧ weight_Check_2.l1 n t f0 x12 = some x53) k15 0 e26 rfl ⟨(hS46.subR e13).sub [0, 1] (by decide), hx54⟩ ?_
       rintro k55 x52 w56 ⟨hS57, hl58⟩
       let e10 := rdD f0 x52 z_Tile
       let e34 := (adr Aa).add ((x52).toNat * 4)
       cases k55 with
       | zero => rw [weight_Check_2.l1] at hl58; cases hl58
       | succ k55 =>
        rw [weight_Check_2.l1] at hl58
        refine WC.seq (WC.region ?_)
        refine sg 1 [] [0, 1, 3, 4, 5, 15, 16, 17, 40, 41, 42, 43] [e16, e17, (3, (.map (some g8))), e19, e39, (15, e8), e3, e15, (40, e8), e23, (42, (iv x52)), (43, (bv (decide (x52 < (f0.length : Int)))))] (by kernel_rfl) ?_
        refine WL.done rfl (WX.next (WC.seq ?_))
        rcases br_some hl58 with ⟨h59, hl58⟩ | ⟨h59, hl58⟩
        ·refine WC.condT2 (fun fb => by kernel_rfl) h59 ?_
         refine WC.skip (WX.next (WC.seq (WC.block (WC.seq (WC.region ?_)))))
         obtain ⟨h60, hl58⟩ := as_some hl58
         refine seg 2 [.v (iv (e10.N)), .v (iv (e10.E)), .v (iv (e10.S)), .v (iv (e10.W))] [0, 1, 3, 4, 5, 15, 16, 17, 40, 41, 42, 45] [e16, e17, (3, (.map (some g8))), e19, e39, (15, e8), e3, e15, (40, e8), e23, (42, (iv x52)), (45, (.agg #[(iv (e10.N)), (iv (e10.E)), (iv (e10.S)), (iv (e10.W))]))] [.idx Aa x52 f0.length, .cell e34 (iv (e10.N)), .cell (e34.add 1) (iv (e10.E)), .cell (e34.add 2) (iv (e10.S)), .cell (e34.add 3) (iv (e10.W))] (fun fb => by kernel_rfl) rfl ⟨rowR.adr (hS57.rd 1).1 h60.1 h60.2, rowR.cell (hS57.rd 1).1 z_Tile h60.1 h60.2 0 rfl, rowR.cell (hS57.rd 1).1 z_Tile h60.1 h60.2 1 rfl, rowR.cell (hS57.rd 1).1 z_Tile h60.1 h60.2 2 rfl, rowR.cell (hS57.rd 1).1 z_Tile h60.1 h60.2 3 rfl, trivial⟩ ?_
         refine WL.new hS57 9 [] (fun g => (pt g)) (.cells #[(iv 0), (iv 0), (iv 0), (iv 0)] 44 (0, 0)) [] (fun fb g => by kernel_rfl) trivial (fun g61 w62 hS63 => ?_)
         refine ⟨trivial, ?_⟩
         refine WL.store hS63 0 rfl [(0, (iv (e10.N))), (1, (iv (e10.E))), (2, (iv (e10.S))), (3, (iv (e10.W)))] #[(iv (e10.N)), (iv (e10.E)), (iv (e10.S)), (iv (e10.W))] (fun fb => by kernel_rfl) (by kernel_rfl) rfl [1, 2] (by decide) (by decide) (fun w65 hS66 => ?_)
         refine ⟨trivial, ?_⟩
         refine WL.done rfl (WX.next (WC.seq (WC.region ?_)))
         refine seg 5 [.v (iv (e10.E)), .v e29] [0, 1, 3, 4, 5, 15, 16, 17, 40, 41, 42, 50] [e16, e17, (3, (.map (some g8))), e19, e39, (15, e8), e3, e15, (40, e8), e23, (42, (iv x52)), (50, (bv ((e10.E) == (e1.W))))] [.cell ⟨g61, 1, none⟩ (iv (e10.E)), .cell ⟨g21, 3, none⟩ e29] (fun fb => by kernel_rfl) rfl ⟨hS66.cell 0 rfl 1 rfl, hS66.cell 2 rfl 3 rfl, trivial⟩ ?_
         refine WL.done rfl (WX.next ?_)
         rcases br_some hl58 with ⟨h67, hl58⟩ | ⟨h67, hl58⟩
         ·refine WC.condT2 (fun fb => by kernel_rfl) h67 ?_
          refine WC.seq (WC.region ?_)
          refine sg 1 [] [2] [(2, (bv false))] (by kernel_rfl) ?_
          refine WL.done rfl (WX.next ?_)
          refine WC.ret ?_
          injection hl58 with hl58
          subst hl58
          injection hx50 with hx50
          subst hx50
          injection hl18 with hl18
          subst hl18
          injection hf with hf
          subst hf
          exact WX.blockR (WX.thenR (WX.thenR (WX.blockR (WX.thenR (WX.blockR (WX.thenR (WX.thenR (WX.blockR (WX.thenR (WX.ret_ [] (bv false) [] (fun fb => by kernel_rfl) trivial ⟨_, rfl, rfl, hS66.keep⟩))))))))))
         refine WC.condF2 (fun fb => by kernel_rfl) h67 ?_
         refine WC.skip ?_
         refine WX.blockN (WX.next ?_)
         refine WC.region ?_
         refine sg 2 [] e26 [e16, e17, (3, (.map (some g8))), e19, e39, (15, e8), e3, e15, (40, e8), e23, (42, (iv (w64 (x52 + 1))))] (by kernel_rfl) ?_
         refine WL.done rfl ?_
         exact WX.again k55 (Nat.lt_succ_self _) (w64 (x52 + 1)) e26 rfl ⟨(hS66.subR e13).sub [1, 2] (by decide), hl58⟩
        refine WC.condF2 (fun fb => by kernel_rfl) h59 ?_
        refine WC.exit ?_
        injection hl58 with hl58
        exact WX.thenX (WX.thenX (WX.blockHere (WX.to Kx53 () [0, 1, 3, 4, 5, 15, 16, 17] rfl ⟨(hS57.subR e13).sub [0, 1] (by decide), hl58.symm⟩)))
      rintro y71 w68 ⟨hS69, hq70⟩
      subst hq70
      have hx50 := sum_inr hx50
      injection hx50 with hx50
      exact WX.to Kx49 () [0, 1, 3, 4, 5, 15, 16, 17] rfl ⟨(hS69.subR e13).sub [0, 1] (by decide), hx50.symm⟩
     refine WC.condF2 (fun fb => by kernel_rfl) h51 ?_
     refine WC.skip ?_
     injection hx50 with hx50
     exact WX.to Kx49 () [0, 1, 3, 4, 5, 15, 16, 17] rfl ⟨(hS46.subR e13).sub [0, 1] (by decide), hx50.symm⟩
    rintro y75 w72 ⟨hS73, hq74⟩
    subst hq74
    have hl18 := sum_inr hl18
    refine WX.next ?_
    obtain ⟨h78, hl18⟩ := as_some hl18
    refine WC.regionD ([(2, ⟨g21, 3, none⟩, e29), e32, (7, e20, e37), (7, (e20.add 1), e38)], e13, [[], [], [1], [], [3], [], [3, 4, 5], [3, 4, 5, 6], e13]) [[0, 1, 2, 3, 4, 5, 6, 7, 8]] (by kernel_rfl) (by kernel_rfl) (NoPanic.block (NoPanic.seq (NoPanic.seq (NoPanic.block (NoPanic.seq (NoPanic.body)))))) ?_
    have hS77 := hS73.drew
    revert hS77
    generalize World.drew w72 = w76
    intro hS77
    refine ⟨⟨hS77.cell 1 rfl 3 rfl, blk_cell (hS77.rd 2).1 2 rfl, rowR.cell (hS77.rd 5).1 z_Frac h78.1 h78.2 0 rfl, rowR.cell (hS77.rd 5).1 z_Frac h78.1 h78.2 1 rfl, trivial⟩, forallC ?_ (forallN)⟩
    refine segF 8 [.v e29, .v (sv Ad f1.Factors cd), .v e37, .v e38] [0, 1, 3, 15, 16, 17, 52, 54, 59] [e16, e17, (3, (.map (some g8))), (15, e8), e3, e15, (52, (.map (some g8))), (54, e29), (59, (.agg #[e37, e38]))] [.idx Ad x12 f1.Factors.length] [0, 1, 2, 3] [(2, ⟨g21, 3, none⟩, e29), e32, (7, e20, e37), (7, (e20.add 1), e38)] (fun fb => by kernel_rfl) rfl ⟨rowR.adr (hS77.rd 5).1 h78.1 h78.2, trivial⟩ rfl ?_
    refine WL.mapput hS77 0 (t := 59) (kT := 3) (eT := 33) (kE := (vI .i64)) (vE := e28) (l := l11) rfl (e1.W) e5 (fun fb => by kernel_rfl) weight_Check_2_key3 (by kernel_rfl) [1] (by decide) (by decide) (fun w79 hS80 => ?_)
    refine ⟨trivial, ?_⟩
    refine WL.done rfl ?_
    refine WX.blockN (WX.next ?_)
    refine WC.region ?_
    refine sg 2 [] [0, 1, 3, 15, 16, 17] [e16, e17, (3, (.map (some g8))), (15, e8), e3, (17, (iv (w64 (x12 + 1))))] (by kernel_rfl) ?_
    refine WL.done rfl ?_
    exact WX.again k15 (Nat.lt_succ_self _) (mput (e1.W) e5 l11, w64 (x12 + 1)) [0, 1, 3, 15, 16, 17] rfl ⟨(hS80.subR e13).sub [0] (by decide), hl18⟩
   refine WC.condF2 (fun fb => by kernel_rfl) h19 ?_
   refine WC.exit ?_
   injection hl18 with hl18
   exact WX.thenX (WX.thenX (WX.blockHere (WX.to Kx13 l11 [0, 1, 3] rfl ⟨(hS17.subR e13).sub [0] (by decide), hl18.symm⟩)))
 rintro y84 w81 ⟨hS82, hq83⟩
 subst hq83
 have hf := sum_inr hf
 refine WX.next (WC.seq (WC.seq (WC.region ?_)))
 refine seg 3 [.v e8] [1, 3, 61, 62, 63] [e17, (3, (.map (some g8))), (61, e8), (62, (iv (f0.length : Int))), (63, (iv 0))] [.cell ⟨ga, 0, none⟩ e8] (fun fb => by kernel_rfl) rfl ⟨blk_cell (hS82.rd 0).1 0 rfl, trivial⟩ ?_
 refine WL.done rfl (WX.next ?_)
 obtain ⟨x86, hx87, hf⟩ := bind_some hf
 let e9 : Nat × Value := (62, (iv (f0.length : Int)))
 let e40 : List Nat := [1, 3, 61, 62, 63, 85]
 refine WC.cutN (T := Unit) (fun t => []) (fun t w1 => St NoS w w1 [blk ga (.cells #[e8] 22 (0, 0)), rowR enc_Tile Aa ca f0, blk gb (.cells e4 26 (0, 0)), rowR enc_Frac Ab cb f1.Values, rowR enc_Frac Ac cc f1.Carries, rowR enc_Frac Ad cd f1.Factors, rowR encInt Ae ce f1.Primes, rowR encInt Af cf f1.Logs] [] ∧ x86 = .inr t) (fun Kx86 => ?_) ?_
 ·
  refine WC.block ?_
  refine WC.loop (T := Int) (fun t => [e17, (3, (.map (some g8))), (61, e8), e9, (63, (iv t))]) (fun n t w1 => St NoS w w1 [blk ga (.cells #[e8] 22 (0, 0)), rowR enc_Tile Aa ca f0, blk gb (.cells e4 26 (0, 0)), rowR enc_Frac Ab cb f1.Values, rowR enc_Frac Ac cc f1.Carries, rowR enc_Frac Ad cd f1.Factors, rowR encInt Ae ce f1.Primes, rowR encInt Af cf f1.Logs] [blk g8 (mapObj (vI .i64) e28 y84)] ∧ weight_Check_2.l2 n t f0 f1 y84 = some x86) k 0 [1, 3, 61, 62, 63] rfl ⟨(hS82.subR e13).sub [0] (by decide), hx87⟩ ?_
  rintro k88 x85 w89 ⟨hS90, hl91⟩
  let e2 := rdD f0 x85 z_Tile
  let e7 := mget (e2.E) z_Frac y84
  let e18 := rdD f1.Factors x85 z_Frac
  let e22 : Nat × Value := (63, (iv x85))
  let e25 : Array Value := #[(iv (e7.Num)), (iv (e7.Den))]
  let e27 : Array Value := #[(iv (e2.N)), (iv (e2.E)), (iv (e2.S)), (iv (e2.W))]
  let e31 := (adr Aa).add ((x85).toNat * 4)
  let e36 := bv (mhas (e2.E) y84)
  let e41 : Nat × Value := (10, (iv x85))
  cases k88 with
  | zero => rw [weight_Check_2.l2] at hl91; cases hl91
  | succ k88 =>
   rw [weight_Check_2.l2] at hl91
   refine WC.seq (WC.region ?_)
   refine sg 1 [] [1, 3, 61, 62, 63, 64] [e17, (3, (.map (some g8))), (61, e8), e9, e22, (64, (bv (decide (x85 < (f0.length : Int)))))] (by kernel_rfl) ?_
   refine WL.done rfl (WX.next (WC.seq ?_))
   rcases br_some hl91 with ⟨h92, hl91⟩ | ⟨h92, hl91⟩
   ·refine WC.condT2 (fun fb => by kernel_rfl) h92 ?_
    refine WC.skip (WX.next (WC.seq (WC.block (WC.seq (WC.region ?_)))))
    refine sg 1 [] [1, 3, 61, 62, 63, 65] [e17, (3, (.map (some g8))), (61, e8), e9, e22, (65, (iv x85))] (by kernel_rfl) ?_
    obtain ⟨h93, hl91⟩ := as_some hl91
    refine seg 3 [.v (iv (e2.N)), .v (iv (e2.E)), .v (iv (e2.S)), .v (iv (e2.W))] [1, 3, 61, 62, 63, 65, 67] [e17, (3, (.map (some g8))), (61, e8), e9, e22, (65, (iv x85)), (67, (.agg e27))] [.idx Aa x85 f0.length, .cell e31 (iv (e2.N)), .cell (e31.add 1) (iv (e2.E)), .cell (e31.add 2) (iv (e2.S)), .cell (e31.add 3) (iv (e2.W))] (fun fb => by kernel_rfl) rfl ⟨rowR.adr (hS90.rd 1).1 h93.1 h93.2, rowR.cell (hS90.rd 1).1 z_Tile h93.1 h93.2 0 rfl, rowR.cell (hS90.rd 1).1 z_Tile h93.1 h93.2 1 rfl, rowR.cell (hS90.rd 1).1 z_Tile h93.1 h93.2 2 rfl, rowR.cell (hS90.rd 1).1 z_Tile h93.1 h93.2 3 rfl, trivial⟩ ?_
    refine WL.new hS90 11 [] (fun g => (pt g)) (.cells #[(iv 0), (iv 0), (iv 0), (iv 0)] 44 (0, 0)) [] (fun fb g => by kernel_rfl) trivial (fun g94 w95 hS96 => ?_)
    refine ⟨trivial, ?_⟩
    refine sg 5 [] [1, 3, 10, 11, 61, 62, 63, 67] [e17, (3, (.map (some g8))), e41, (11, (pt g94)), (61, e8), e9, e22, (67, (.agg e27))] (by kernel_rfl) ?_
    refine WL.store hS96 0 rfl [(0, (iv (e2.N))), (1, (iv (e2.E))), (2, (iv (e2.S))), (3, (iv (e2.W)))] e27 (fun fb => by kernel_rfl) (by kernel_rfl) rfl [1] (by decide) (by decide) (fun w97 hS98 => ?_)
    refine ⟨trivial, ?_⟩
    refine WL.done rfl (WX.next (WC.seq (WC.region ?_)))
    refine seg 3 [.v (iv (e2.E))] [1, 3, 10, 61, 62, 63, 69, 71] [e17, (3, (.map (some g8))), e41, (61, e8), e9, e22, (69, (.map (some g8))), (71, (iv (e2.E)))] [.cell ⟨g94, 1, none⟩ (iv (e2.E))] (fun fb => by kernel_rfl) rfl ⟨hS98.cell 0 rfl 1 rfl, trivial⟩ ?_
    refine WL.lookup (hS98.own 1).1 (e2.E) (d := 72) (c := true) (t := 59) (kT := 3) (eT := 33) (z := z_Frac) (kE := (vI .i64)) (vE := e28) (l := y84) (.tuple #[(.agg e25), e36]) (fun fb => by kernel_rfl) weight_Check_2_key3 (by kernel_rfl) (fun _ => by kernel_rfl) rfl ?_
    refine ⟨trivial, ?_⟩
    refine sg 7 [] [1, 3, 10, 61, 62, 63, 73, 74] [e17, (3, (.map (some g8))), e41, (61, e8), e9, e22, (73, (.agg e25)), (74, e36)] (by kernel_rfl) ?_
    refine WL.new hS98 12 [] (fun g => (pt g)) (.cells #[(iv 0), (iv 0)] 33 (0, 0)) [] (fun fb g => by kernel_rfl) trivial (fun g99 w100 hS101 => ?_)
    refine ⟨trivial, ?_⟩
    refine WL.store hS101 0 rfl [(0, (iv (e7.Num))), (1, (iv (e7.Den)))] e25 (fun fb => by kernel_rfl) (by kernel_rfl) rfl [1, 2] (by decide) (by decide) (fun w102 hS103 => ?_)
    refine ⟨trivial, ?_⟩
    refine sg 10 [] [1, 3, 10, 12, 13, 61, 62, 63] [e17, (3, (.map (some g8))), e41, (12, (pt g99)), (13, e36), (61, e8), e9, e22] (by kernel_rfl) ?_
    refine WL.done rfl (WX.next (WC.seq ?_))
    obtain ⟨x104, hx105, hl91⟩ := bind_some hl91
    let e12 : List (Nat × Addr × Value) := [(2, ⟨g99, 0, none⟩, (iv (e7.Num))), (2, ⟨g99, 1, none⟩, (iv (e7.Den))), e32, (7, ((adr Ad).add ((x85).toNat * 2)), (iv (e18.Num))), (7, (((adr Ad).add ((x85).toNat * 2)).add 1), (iv (e18.Den)))]
    refine WC.cutN (T := Bool) (fun t => [e17, (3, (.map (some g8))), (61, e8), e9, e22, (85, (bv t))]) (fun t w1 => St NoS w w1 [blk ga (.cells #[e8] 22 (0, 0)), rowR enc_Tile Aa ca f0, blk gb (.cells e4 26 (0, 0)), rowR enc_Frac Ab cb f1.Values, rowR enc_Frac Ac cc f1.Carries, rowR enc_Frac Ad cd f1.Factors, rowR encInt Ae ce f1.Primes, rowR encInt Af cf f1.Logs] [blk g8 (mapObj (vI .i64) e28 y84)] ∧ x104 = t) (fun Kx104 => ?_) ?_
    ·
     rcases br_some hx105 with ⟨h106, hx105⟩ | ⟨h106, hx105⟩
     ·
      obtain ⟨h109, hx105⟩ := as_some hx105
      refine WC.regionD (e12, [0, 1, 2, 3, 4, 5, 6, 7, 9, 10], e21) [[0, 1, 2, 3, 4, 5, 6, 7, 8, 9, 10]] (by kernel_rfl) (by kernel_rfl) (NoPanic.seq (NoPanic.block (NoPanic.seq (NoPanic.seq (NoPanic.block (NoPanic.seq (NoPanic.body))))))) ?_
      have hS108 := hS103.drew
      revert hS108
      generalize World.drew w102 = w107
      intro hS108
      refine ⟨⟨hS108.cell 0 rfl 0 rfl, hS108.cell 0 rfl 1 rfl, blk_cell (hS108.rd 2).1 2 rfl, rowR.cell (hS108.rd 5).1 z_Frac h109.1 h109.2 0 rfl, rowR.cell (hS108.rd 5).1 z_Frac h109.1 h109.2 1 rfl, trivial⟩, forallC ?_ (forallN)⟩
      refine sg 2 [] [1, 3, 10, 12, 61, 62, 63, 76] [e17, (3, (.map (some g8))), e41, (12, (pt g99)), (61, e8), e9, e22, (76, e36)] (by kernel_rfl) ?_
      refine WL.setB 76 h106 rfl ?_
      refine segF 8 [.v (iv (e7.Num)), .v (iv (e7.Den)), .v (sv Ad f1.Factors cd), .v (iv (e18.Num)), .v (iv (e18.Den))] [1, 3, 61, 62, 63, 76, 77, 82] [e17, (3, (.map (some g8))), (61, e8), e9, e22, (76, (bv true)), (77, (.agg e25)), (82, (.agg #[(iv (e18.Num)), (iv (e18.Den))]))] [.idx Ad x85 f1.Factors.length] [0, 1, 2, 3, 4] e12 (fun fb => by kernel_rfl) rfl ⟨rowR.adr (hS108.rd 5).1 h109.1 h109.2, trivial⟩ rfl ?_
      obtain ⟨t110, ht111, hx105⟩ := bind_some hx105
      refine WL.call (some 83) 30 #[(.agg e25), (.agg #[(iv (e18.Num)), (iv (e18.Den))])] (fun fb => by kernel_rfl) (weight_equal_calls e7 e18 t110 _ ht111) (fun v w112 hR113 => ?_)
      obtain ⟨rfl, hk_⟩ := hR113
      have hS114 := hS108.keepN hk_
      refine ⟨trivial, ?_⟩
      refine sg 11 [] e40 [e17, (3, (.map (some g8))), (61, e8), e9, e22, (85, (bv (!t110)))] (by kernel_rfl) ?_
      refine WL.done rfl ?_
      injection hx105 with hx105
      exact WX.to Kx104 (!t110) e40 rfl ⟨(hS114.subR e13).sub [2] (by decide), hx105.symm⟩
     refine WC.regionD ([], [0, 1, 2, 3, 4, 5, 6, 7, 9, 10], e21) [[0, 1, 2, 3, 4, 5, 6, 7, 8, 9, 10]] (by kernel_rfl) (by kernel_rfl) (NoPanic.seq (NoPanic.block (NoPanic.seq (NoPanic.seq (NoPanic.block (NoPanic.seq (NoPanic.body))))))) ?_
     have hS116 := hS103.drew
     revert hS116
     generalize World.drew w102 = w115
     intro hS116
     refine ⟨trivial, forallC ?_ (forallN)⟩
     refine sg 2 [] [1, 3, 10, 12, 61, 62, 63, 76] [e17, (3, (.map (some g8))), e41, (12, (pt g99)), (61, e8), e9, e22, (76, e36)] (by kernel_rfl) ?_
     refine WL.setB 76 h106 rfl ?_
     refine sg 11 [] e40 [e17, (3, (.map (some g8))), (61, e8), e9, e22, (85, (bv false))] (by kernel_rfl) ?_
     refine WL.done rfl ?_
     injection hx105 with hx105
     exact WX.to Kx104 false e40 rfl ⟨(hS116.subR e13).sub [2] (by decide), hx105.symm⟩
    rintro y120 w117 ⟨hS118, hq119⟩
    subst hq119
    refine WX.next ?_
    rcases br_some hl91 with ⟨h121, hl91⟩ | ⟨h121, hl91⟩
    ·refine WC.condT2 (fun fb => by kernel_rfl) h121 ?_
     refine WC.seq (WC.region ?_)
     refine sg 1 [] [2] [(2, (bv false))] (by kernel_rfl) ?_
     refine WL.done rfl (WX.next ?_)
     refine WC.ret ?_
     injection hl91 with hl91
     subst hl91
     injection hf with hf
     subst hf
     exact WX.blockR (WX.thenR (WX.thenR (WX.blockR (WX.thenR (WX.ret_ [] (bv false) [] (fun fb => by kernel_rfl) trivial ⟨_, rfl, rfl, hS118.keep⟩)))))
    refine WC.condF2 (fun fb => by kernel_rfl) h121 ?_
    refine WC.skip ?_
    refine WX.blockN (WX.next ?_)
    refine WC.region ?_
    refine sg 2 [] [1, 3, 61, 62, 63] [e17, (3, (.map (some g8))), (61, e8), e9, (63, (iv (w64 (x85 + 1))))] (by kernel_rfl) ?_
    refine WL.done rfl ?_
    exact WX.again k88 (Nat.lt_succ_self _) (w64 (x85 + 1)) [1, 3, 61, 62, 63] rfl ⟨(hS118.subR e13).sub [0] (by decide), hl91⟩
   refine WC.condF2 (fun fb => by kernel_rfl) h92 ?_
   refine WC.exit ?_
   injection hl91 with hl91
   exact WX.thenX (WX.thenX (WX.blockHere (WX.to Kx86 () [] rfl ⟨(hS90.subR e13).sub [] (by decide), hl91.symm⟩)))
 rintro y125 w122 ⟨hS123, hq124⟩
 subst hq124
 have hf := sum_inr hf
 refine WX.next (WC.seq (WC.region ?_))
 refine sg 1 [] [2] [(2, (bv true))] (by kernel_rfl) ?_
 refine WL.done rfl (WX.next ?_)
 refine WC.ret ?_
 injection hf with hf
 subst hf
 exact WX.ret_ [] (bv true) [] (fun fb => by kernel_rfl) trivial ⟨_, rfl, rfl, hS123.keep⟩
theorem slices_Clone_api_Tile_api_Tile_nil_calls (p0 : List Tile) (ca : Nat) (r : (List Tile)) (w : World) (hR0 : RO NoS w (rowR enc_Tile none ca ([] : List Tile))) (hf : slices_Clone_api_Tile_api_Tile_nil p0 = some r) :
  CallsR Tryz.prog 65 #[(sv none ([] : List Tile) ca)] w (fun v w' => ∃ (A1_ : Option Addr), ∃ (c1_ : Nat), v = (sv A1_ r c1_) ∧ St NoS w w' [] [rowO 44 enc_Tile A1_ c1_ r]) := by
 have hS : St NoS w w [rowR enc_Tile none ca ([] : List Tile)] [] := St.init (ro_cons hR0 (ro_nil _ _))
 refine enter 8 Tryz.func65 rfl Tryz.ntmps65 rfl ?_
 unfold slices_Clone_api_Tile_api_Tile_nil at hf
 refine WC.seq (WC.region ?_)
 refine sg 1 [] [0] [(0, (sv none ([] : List Tile) ca))] (by kernel_rfl) ?_
 refine WL.done rfl (WX.next (WC.seq (WC.seq (WC.region ?_))))
 refine sg 2 [] [0, 4] [(0, (sv none ([] : List Tile) ca)), (4, (bv true))] (by kernel_rfl) ?_
 refine WL.done rfl (WX.next ?_)
 refine WC.condT (fun fb => by kernel_rfl) ?_
 refine WC.seq (WC.region ?_)
 refine sg 1 [] [2] [(2, (.slice none 0 0))] (by kernel_rfl) ?_
 refine WL.done rfl (WX.next ?_)
 refine WC.ret ?_
 have hS2 := hS.nilrow 44 enc_Tile
 injection hf with hf
 subst hf
 exact WX.thenR (WX.ret_ [] (sv none ([] : List Tile) 0) [] (fun fb => by kernel_rfl) trivial ⟨_, rfl, none, 0, rfl, (hS2.sub [0] (by decide)).noR⟩)
theorem slices_Clone_api_Tile_api_Tile_some_calls (p0 : List Tile) (aa : Addr) (ca : Nat) (r : (List Tile)) (w : World) (hR0 : RO NoS w (rowR enc_Tile (some aa) ca p0)) (hf : slices_Clone_api_Tile_api_Tile_some p0 = some r) :
  CallsR Tryz.prog 65 #[(sv (some aa) p0 ca)] w (fun v w' => ∃ (A1_ : Option Addr), ∃ (c1_ : Nat), v = (sv A1_ r c1_) ∧ St NoS w w' [] [rowO 44 enc_Tile A1_ c1_ r]) := by
 have hS : St NoS w w [rowR enc_Tile (some aa) ca p0] [] := St.init (ro_cons hR0 (ro_nil _ _))
 refine enter 8 Tryz.func65 rfl Tryz.ntmps65 rfl ?_
 unfold slices_Clone_api_Tile_api_Tile_some at hf
 refine WC.seq (WC.region ?_)
 refine sg 1 [] [0] [(0, (sv (some aa) p0 ca))] (by kernel_rfl) ?_
 refine WL.done rfl (WX.next (WC.seq (WC.seq (WC.region ?_))))
 refine sg 2 [] [0, 4] [(0, (sv (some aa) p0 ca)), (4, (bv false))] (by kernel_rfl) ?_
 refine WL.done rfl (WX.next ?_)
 refine WC.condF (fun fb => by kernel_rfl) ?_
 refine WC.skip (WX.next (WC.seq (WC.region ?_)))
 refine WL.new hS 5 [] (fun g => (.slice (some ⟨g, 0, none⟩) 0 0)) (.cells #[] 44 (0, 0)) [] (fun fb g => by kernel_rfl) trivial (fun g3 w4 hS5 => ?_)
 refine ⟨trivial, ?_⟩
 have hS6 := hS.go w4 [rowO 44 enc_Tile (some ⟨g3, 0, none⟩) 0 ([] : List Tile)] (hS5.map1 0 _ (fun h => rowO.ofBlk h rfl (Nat.le_of_ble_eq_true (by kernel_rfl))) (fun _ h => by obtain ⟨_, h1, h2⟩ := h; injection h1 with h1; subst h1; exact h2) [] (by decide) (by decide))
 refine sg 2 [] [5, 6] [(5, (sv (some ⟨g3, 0, none⟩) ([] : List Tile) 0)), (6, (sv (some aa) p0 ca))] (by kernel_rfl) ?_
 obtain ⟨h7, hf⟩ := as_some hf
 refine WL.append hS6 0 (d := 7) (tS := 22) (z := (.agg #[(iv 0), (iv 0), (iv 0), (iv 0)])) (bytes := 32) (c2 := ca) rfl (fun fb => by kernel_rfl) (hS6.rd 0).1 (by kernel_rfl) (by kernel_rfl) rfl (by decide) h7 (by decide) [] (by decide) (by decide) (fun A8 c9 w10 hS11 => ?_)
 refine ⟨trivial, ?_⟩
 refine sg 4 [] [2] [(2, (sv A8 (([] : List Tile) ++ p0) c9))] (by kernel_rfl) ?_
 refine WL.done rfl (WX.next ?_)
 refine WC.ret ?_
 injection hf with hf
 subst hf
 exact WX.ret_ [] (sv A8 (([] : List Tile) ++ p0) c9) [] (fun fb => by kernel_rfl) trivial ⟨_, rfl, A8, c9, rfl, (hS11.sub [0] (by decide)).noR⟩
theorem slices_Clone_api_Tile_api_Tile_calls (p0 : List Tile) (Aa : Option Addr) (ca : Nat) (r : List Tile) (w : World) (hR0 : RO NoS w (rowR enc_Tile Aa ca p0)) (hf : slices_Clone_api_Tile_api_Tile p0 = some r) :
  CallsR Tryz.prog 65 #[(sv Aa p0 ca)] w (fun v w' => ∃ (A1_ : Option Addr), ∃ (c1_ : Nat), v = (sv A1_ r c1_) ∧ St NoS w w' [] [rowO 44 enc_Tile A1_ c1_ r]) := by
 unfold slices_Clone_api_Tile_api_Tile at hf
 cases Aa with
 | none =>
  have h3 : p0 = [] := by
   cases p0 with
   | nil => rfl
   | cons x xs => exact absurd (hR0.1.1 0 x rfl).1 (by simp)
  subst h3
  rw [slices_Clone_api_Tile_api_Tile_some] at hf
  obtain ⟨h4, hf⟩ := as_some hf
  injection hf with hf; subst hf
  exact slices_Clone_api_Tile_api_Tile_nil_calls [] ca [] w hR0 rfl
 | some a => exact slices_Clone_api_Tile_api_Tile_some_calls p0 a ca r w hR0 hf
theorem weight_acyclic_1_key3 : KeyK Tryz.prog 3 (vI .i64) := KeyK.int (by kernel_rfl)
theorem weight_acyclic_1_calls (p0 : Tile) (f0 : List (Int × Bool)) (ga : Nat) (gm_f0 : Nat) (r : Bool) (w : World) (hR0 : RO NoS w (blk gm_f0 (mapObj (vI .i64) vB f0))) (hR1 : RO NoS w (blk ga (.cells #[(.map (some gm_f0))] 91 (0, 0)))) (hf : weight_acyclic_1 p0 f0 = some r) :
  CallsR Tryz.prog 66 #[(.agg #[(iv p0.N), (iv p0.E), (iv p0.S), (iv p0.W)]), (pt ga)] w (fun v w' => v = (bv r) ∧ Keeps NoS w w') := by
 have hS : St NoS w w [blk gm_f0 (mapObj (vI .i64) vB f0), blk ga (.cells #[(.map (some gm_f0))] 91 (0, 0))] [] := St.init (ro_cons hR0 (ro_cons hR1 (ro_nil _ _)))
 refine enter 9 Tryz.func66 rfl Tryz.ntmps66 rfl ?_
 unfold weight_acyclic_1 at hf
 refine WC.seq (WC.region ?_)
 refine WL.new hS 2 [] (fun g => (pt g)) (.cells #[(iv p0.N), (iv p0.E), (iv p0.S), (iv p0.W)] 44 (0, 0)) [] (fun fb g => by kernel_rfl) trivial (fun g2 w3 hS4 => ?_)
 refine ⟨trivial, ?_⟩
 refine sg 2 [] [1, 2] [(1, (pt ga)), (2, (pt g2))] (by kernel_rfl) ?_
 refine WL.done rfl (WX.next (WC.seq (WC.region ?_)))
 refine seg 3 [.v (.map (some gm_f0)), .v (iv p0.E)] [4, 6] [(4, (.map (some gm_f0))), (6, (iv p0.E))] [.cell ⟨ga, 0, none⟩ (.map (some gm_f0)), .cell ⟨g2, 1, none⟩ (iv p0.E)] (fun fb => by kernel_rfl) rfl ⟨blk_cell (hS4.rd 1).1 0 rfl, hS4.cell 0 rfl 1 rfl, trivial⟩ ?_
 refine WL.lookup (hS4.rd 0).1 p0.E (d := 7) (c := false) (t := 91) (kT := 3) (eT := 4) (z := false) (kE := (vI .i64)) (vE := vB) (l := f0) (bv (mget p0.E false f0)) (fun fb => by kernel_rfl) weight_acyclic_1_key3 (by kernel_rfl) (fun _ => by kernel_rfl) rfl ?_
 refine ⟨trivial, ?_⟩
 refine sg 6 [] [3] [(3, (bv (!(mget p0.E false f0))))] (by kernel_rfl) ?_
 refine WL.done rfl (WX.next ?_)
 refine WC.ret ?_
 injection hf with hf
 subst hf
 exact WX.ret_ [] (bv (!(mget p0.E false f0))) [] (fun fb => by kernel_rfl) trivial ⟨_, rfl, rfl, hS4.keep⟩
theorem slices_IndexFunc_api_Tile_api_Tile_with_weight_acyclic_1_calls (k : Nat) (p0 : List Tile) (p1_0 : List (Int × Bool)) (Aa : Option Addr) (ca : Nat) (ga : Nat) (gm_p1_0 : Nat) (r : Int) (w : World) (hR0 : RO NoS w (rowR enc_Tile Aa ca p0)) (hR1 : RO NoS w (blk gm_p1_0 (mapObj (vI .i64) vB p1_0))) (hR2 : RO NoS w (blk ga (.cells #[(.map (some gm_p1_0))] 91 (0, 0)))) (hf : slices_IndexFunc_api_Tile_api_Tile_with_weight_acyclic_1 k p0 p1_0 = some r) :
  CallsR Tryz.prog 87 #[(sv Aa p0 ca), (.func (.func 66) #[] #[(pt ga)])] w (fun v w' => v = (iv r) ∧ Keeps NoS w w') := by
 have hS : St NoS w w [rowR enc_Tile Aa ca p0, blk gm_p1_0 (mapObj (vI .i64) vB p1_0), blk ga (.cells #[(.map (some gm_p1_0))] 91 (0, 0))] [] := St.init (ro_cons hR0 (ro_cons hR1 (ro_cons hR2 (ro_nil _ _))))
 refine enter 19 Tryz.func87 rfl Tryz.ntmps87 rfl ?_
 unfold slices_IndexFunc_api_Tile_api_Tile_with_weight_acyclic_1 at hf
 refine WC.seq (WC.region ?_)
 refine sg 1 [] [0, 1] [(0, (sv Aa p0 ca)), (1, (.func (.func 66) #[] #[(pt ga)]))] (by kernel_rfl) ?_
 refine WL.done rfl (WX.next (WC.seq (WC.seq (WC.region ?_))))
 refine sg 3 [] [0, 1, 7, 8] [(0, (sv Aa p0 ca)), (1, (.func (.func 66) #[] #[(pt ga)])), (7, (iv (p0.length : Int))), (8, (iv 0))] (by kernel_rfl) ?_
 refine WL.done rfl (WX.next ?_)
 obtain ⟨x4, hx5, hf⟩ := bind_some hf
 let e2 : Nat × Value := (7, (iv (p0.length : Int)))
 let e4 : Nat × Value := (0, (sv Aa p0 ca))
 refine WC.cutN (T := Unit) (fun t => []) (fun t w1 => St NoS w w1 [rowR enc_Tile Aa ca p0, blk gm_p1_0 (mapObj (vI .i64) vB p1_0), blk ga (.cells #[(.map (some gm_p1_0))] 91 (0, 0))] [] ∧ x4 = .inr t) (fun Kx4 => ?_) ?_
 ·
  refine WC.block ?_
  refine WC.loop (T := Int) (fun t => [e4, (1, (.func (.func 66) #[] #[(pt ga)])), e2, (8, (iv t))]) (fun n t w1 => St NoS w w1 [rowR enc_Tile Aa ca p0, blk gm_p1_0 (mapObj (vI .i64) vB p1_0), blk ga (.cells #[(.map (some gm_p1_0))] 91 (0, 0))] [] ∧ slices_IndexFunc_api_Tile_api_Tile_with_weight_acyclic_1.l0 n t p0 p1_0 = some x4) k 0 [0, 1, 7, 8] rfl ⟨(hS.subR [0, 1, 2]).sub [] (by decide), hx5⟩ ?_
  rintro k6 x3 w7 ⟨hS8, hl9⟩
  let e1 := rdD p0 x3 z_Tile
  let e3 := (adr Aa).add ((x3).toNat * 4)
  cases k6 with
  | zero => rw [slices_IndexFunc_api_Tile_api_Tile_with_weight_acyclic_1.l0] at hl9; cases hl9
  | succ k6 =>
   rw [slices_IndexFunc_api_Tile_api_Tile_with_weight_acyclic_1.l0] at hl9
   refine WC.seq (WC.region ?_)
   refine sg 1 [] [0, 1, 7, 8, 9] [e4, (1, (.func (.func 66) #[] #[(pt ga)])), e2, (8, (iv x3)), (9, (bv (decide (x3 < (p0.length : Int)))))] (by kernel_rfl) ?_
   refine WL.done rfl (WX.next (WC.seq ?_))
   rcases br_some hl9 with ⟨h10, hl9⟩ | ⟨h10, hl9⟩
   ·refine WC.condT2 (fun fb => by kernel_rfl) h10 ?_
    refine WC.skip (WX.next (WC.seq (WC.block (WC.seq (WC.region ?_)))))
    refine sg 2 [] [0, 1, 5, 7, 8] [e4, (1, (.func (.func 66) #[] #[(pt ga)])), (5, (iv x3)), e2, (8, (iv x3))] (by kernel_rfl) ?_
    refine WL.done rfl (WX.next (WC.seq (WC.region ?_)))
    refine sg 3 [] [0, 1, 5, 7, 8, 11, 12, 13] [e4, (1, (.func (.func 66) #[] #[(pt ga)])), (5, (iv x3)), e2, (8, (iv x3)), (11, (.func (.func 66) #[] #[(pt ga)])), (12, (sv Aa p0 ca)), (13, (iv x3))] (by kernel_rfl) ?_
    obtain ⟨h11, hl9⟩ := as_some hl9
    refine seg 5 [.v (iv (e1.N)), .v (iv (e1.E)), .v (iv (e1.S)), .v (iv (e1.W))] [0, 1, 5, 7, 8, 11, 15] [e4, (1, (.func (.func 66) #[] #[(pt ga)])), (5, (iv x3)), e2, (8, (iv x3)), (11, (.func (.func 66) #[] #[(pt ga)])), (15, (.agg #[(iv (e1.N)), (iv (e1.E)), (iv (e1.S)), (iv (e1.W))]))] [.idx Aa x3 p0.length, .cell e3 (iv (e1.N)), .cell (e3.add 1) (iv (e1.E)), .cell (e3.add 2) (iv (e1.S)), .cell (e3.add 3) (iv (e1.W))] (fun fb => by kernel_rfl) rfl ⟨rowR.adr (hS8.rd 0).1 h11.1 h11.2, rowR.cell (hS8.rd 0).1 z_Tile h11.1 h11.2 0 rfl, rowR.cell (hS8.rd 0).1 z_Tile h11.1 h11.2 1 rfl, rowR.cell (hS8.rd 0).1 z_Tile h11.1 h11.2 2 rfl, rowR.cell (hS8.rd 0).1 z_Tile h11.1 h11.2 3 rfl, trivial⟩ ?_
    obtain ⟨t12, ht13, hl9⟩ := bind_some hl9
    refine WL.call (some 16) 66 #[(.agg #[(iv (e1.N)), (iv (e1.E)), (iv (e1.S)), (iv (e1.W))]), (pt ga)] (fun fb => by kernel_rfl) (weight_acyclic_1_calls e1 p1_0 ga gm_p1_0 t12 _ (hS8.rd 1) (hS8.rd 2) ht13) (fun v w14 hR15 => ?_)
    obtain ⟨rfl, hk_⟩ := hR15
    have hS16 := hS8.keepN hk_
    refine ⟨trivial, ?_⟩
    refine WL.done rfl (WX.next ?_)
    rcases br_some hl9 with ⟨h17, hl9⟩ | ⟨h17, hl9⟩
    ·refine WC.condT2 (fun fb => by kernel_rfl) h17 ?_
     refine WC.seq (WC.region ?_)
     refine sg 2 [] [4] [(4, (iv x3))] (by kernel_rfl) ?_
     refine WL.done rfl (WX.next ?_)
     refine WC.ret ?_
     injection hl9 with hl9
     subst hl9
     injection hf with hf
     subst hf
     exact WX.blockR (WX.thenR (WX.thenR (WX.blockR (WX.thenR (WX.ret_ [] (iv x3) [] (fun fb => by kernel_rfl) trivial ⟨_, rfl, rfl, hS16.keep⟩)))))
    refine WC.condF2 (fun fb => by kernel_rfl) h17 ?_
    refine WC.skip ?_
    refine WX.blockN (WX.next ?_)
    refine WC.region ?_
    refine sg 2 [] [0, 1, 7, 8] [e4, (1, (.func (.func 66) #[] #[(pt ga)])), e2, (8, (iv (w64 (x3 + 1))))] (by kernel_rfl) ?_
    refine WL.done rfl ?_
    exact WX.again k6 (Nat.lt_succ_self _) (w64 (x3 + 1)) [0, 1, 7, 8] rfl ⟨(hS16.subR [0, 1, 2]).sub [] (by decide), hl9⟩
   refine WC.condF2 (fun fb => by kernel_rfl) h10 ?_
   refine WC.exit ?_
   injection hl9 with hl9
   exact WX.thenX (WX.thenX (WX.blockHere (WX.to Kx4 () [] rfl ⟨(hS8.subR [0, 1, 2]).sub [] (by decide), hl9.symm⟩)))
 rintro y21 w18 ⟨hS19, hq20⟩
 subst hq20
 have hf := sum_inr hf
 refine WX.next (WC.seq (WC.region ?_))
 refine sg 1 [] [4] [(4, (iv (-1)))] (by kernel_rfl) ?_
 refine WL.done rfl (WX.next ?_)
 refine WC.ret ?_
 injection hf with hf
 subst hf
 exact WX.ret_ [] (iv (-1)) [] (fun fb => by kernel_rfl) trivial ⟨_, rfl, rfl, hS19.keep⟩
theorem slices_DeleteFunc_api_Tile_api_Tile_with_weight_acyclic_1_calls (k : Nat) (p0 : List Tile) (p1_0 : List (Int × Bool)) (Aa : Option Addr) (ca : Nat) (ga : Nat) (gm_p1_0 : Nat) (r : (List Tile)) (w : World) (hR0 : RO (fpL [rowO 44 enc_Tile Aa ca p0]) w (blk gm_p1_0 (mapObj (vI .i64) vB p1_0))) (hR1 : RO (fpL [rowO 44 enc_Tile Aa ca p0]) w (blk ga (.cells #[(.map (some gm_p1_0))] 91 (0, 0)))) (hI : IoOK w [rowO 44 enc_Tile Aa ca p0]) (hf : slices_DeleteFunc_api_Tile_api_Tile_with_weight_acyclic_1 k p0 p1_0 = some r) :
  CallsR Tryz.prog 64 #[(sv Aa p0 ca), (.func (.func 66) #[] #[(pt ga)])] w (fun v w' => ∃ (A1_ : Option Addr), ∃ (c1_ : Nat), v = (sv A1_ r c1_) ∧ St (fpL [rowO 44 enc_Tile Aa ca p0]) w w' [] [rowO 44 enc_Tile A1_ c1_ r]) := by
 have hS : St (fpL [rowO 44 enc_Tile Aa ca p0]) w w [blk gm_p1_0 (mapObj (vI .i64) vB p1_0), blk ga (.cells #[(.map (some gm_p1_0))] 91 (0, 0))] [rowO 44 enc_Tile Aa ca p0] := St.initIO (ro_cons hR0 (ro_cons hR1 (ro_nil _ _))) hI
 refine enter 42 Tryz.func64 rfl Tryz.ntmps64 rfl ?_
 unfold slices_DeleteFunc_api_Tile_api_Tile_with_weight_acyclic_1 at hf
 refine WC.seq (WC.region ?_)
 refine sg 1 [] [0, 1] [(0, (sv Aa p0 ca)), (1, (.func (.func 66) #[] #[(pt ga)]))] (by kernel_rfl) ?_
 refine WL.done rfl (WX.next (WC.seq (WC.region ?_)))
 refine sg 2 [] [0, 1, 8, 9] [(0, (sv Aa p0 ca)), (1, (.func (.func 66) #[] #[(pt ga)])), (8, (sv Aa p0 ca)), (9, (.func (.func 66) #[] #[(pt ga)]))] (by kernel_rfl) ?_
 obtain ⟨t3, ht4, hf⟩ := bind_some hf
 refine WL.call (some 10) 87 #[(sv Aa p0 ca), (.func (.func 66) #[] #[(pt ga)])] (fun fb => by kernel_rfl) (slices_IndexFunc_api_Tile_api_Tile_with_weight_acyclic_1_calls _ p0 p1_0 Aa ca ga gm_p1_0 t3 _ (hS.ow 0).ofO (hS.rd 0) (hS.rd 1) ht4) (fun v w5 hR6 => ?_)
 obtain ⟨rfl, hk_⟩ := hR6
 have hS7 := hS.keepN hk_
 refine ⟨trivial, ?_⟩
 refine sg 4 [] [0, 1, 5] [(0, (sv Aa p0 ca)), (1, (.func (.func 66) #[] #[(pt ga)])), (5, (iv t3))] (by kernel_rfl) ?_
 refine WL.done rfl (WX.next (WC.seq (WC.seq (WC.region ?_))))
 refine sg 2 [] [0, 1, 5, 12] [(0, (sv Aa p0 ca)), (1, (.func (.func 66) #[] #[(pt ga)])), (5, (iv t3)), (12, (bv (t3 == (-1))))] (by kernel_rfl) ?_
 refine WL.done rfl (WX.next ?_)
 rcases br_some hf with ⟨h8, hf⟩ | ⟨h8, hf⟩
 ·refine WC.condT2 (fun fb => by kernel_rfl) h8 ?_
  refine WC.seq (WC.region ?_)
  refine sg 2 [] [4] [(4, (sv Aa p0 ca))] (by kernel_rfl) ?_
  refine WL.done rfl (WX.next ?_)
  refine WC.ret ?_
  injection hf with hf
  subst hf
  exact WX.thenR (WX.ret_ [] (sv Aa p0 ca) [] (fun fb => by kernel_rfl) trivial ⟨_, rfl, Aa, ca, rfl, (hS7.sub [0] (by decide)).noR⟩)
 refine WC.condF2 (fun fb => by kernel_rfl) h8 ?_
 refine WC.skip (WX.next (WC.seq (WC.seq (WC.region ?_))))
 refine sg 3 [] [0, 1, 5, 6] [(0, (sv Aa p0 ca)), (1, (.func (.func 66) #[] #[(pt ga)])), (5, (iv t3)), (6, (iv (w64 (t3 + 1))))] (by kernel_rfl) ?_
 refine WL.done rfl (WX.next ?_)
 obtain ⟨x16, hx17, hf⟩ := bind_some hf
 let e6 : Array Value := #[(pt ga)]
 let e8 := fpL [rowO 44 enc_Tile Aa ca p0]
 refine WC.cutN (T := ((List Tile) × Int) × (Option Addr) × Nat) (fun t => [(0, (sv t.2.1 t.1.1 t.2.2)), (5, (iv t.1.2))]) (fun t w1 => St e8 w w1 [blk gm_p1_0 (mapObj (vI .i64) vB p1_0), blk ga (.cells #[(.map (some gm_p1_0))] 91 (0, 0))] [rowO 44 enc_Tile t.2.1 t.2.2 t.1.1] ∧ x16 = t.1) (fun Kx16 => ?_) ?_
 ·
  refine WC.block ?_
  refine WC.loop (T := ((List Tile) × Int × Int) × (Option Addr) × Nat) (fun t => [(0, (sv t.2.1 t.1.1 t.2.2)), (1, (.func (.func 66) #[] e6)), (5, (iv t.1.2.1)), (6, (iv t.1.2.2))]) (fun n t w1 => St e8 w w1 [blk gm_p1_0 (mapObj (vI .i64) vB p1_0), blk ga (.cells #[(.map (some gm_p1_0))] 91 (0, 0))] [rowO 44 enc_Tile t.2.1 t.2.2 t.1.1] ∧ slices_DeleteFunc_api_Tile_api_Tile_with_weight_acyclic_1.l0 n t.1.1 t.1.2.1 t.1.2.2 p1_0 = some x16) k ((p0, t3, w64 (t3 + 1)), Aa, ca) [0, 1, 5, 6] rfl ⟨(hS7.subR [0, 1]).sub [0] (by decide), hx17⟩ ?_
  rintro k18 ⟨⟨l11, x12, x13⟩, A9, c10⟩ w19 ⟨hS20, hl21⟩
  let e1 := rdD l11 x13 z_Tile
  let e2 : Array Value := #[(iv (e1.N)), (iv (e1.E)), (iv (e1.S)), (iv (e1.W))]
  let e3 : Nat × Value := (0, (sv A9 l11 c10))
  let e4 := (adr A9).add ((x13).toNat * 4)
  let e5 : Nat × Value := (6, (iv x13))
  let e7 : List (Nat × Value) := [(0, (iv (e1.N))), (1, (iv (e1.E))), (2, (iv (e1.S))), (3, (iv (e1.W)))]
  let e9 : Nat × Value := (5, (iv x12))
  cases k18 with
  | zero => rw [slices_DeleteFunc_api_Tile_api_Tile_with_weight_acyclic_1.l0] at hl21; cases hl21
  | succ k18 =>
   rw [slices_DeleteFunc_api_Tile_api_Tile_with_weight_acyclic_1.l0] at hl21
   refine WC.seq (WC.seq (WC.region ?_))
   refine sg 4 [] [0, 1, 5, 6, 19] [e3, (1, (.func (.func 66) #[] e6)), e9, e5, (19, (bv (decide (x13 < (l11.length : Int)))))] (by kernel_rfl) ?_
   refine WL.done rfl (WX.next ?_)
   rcases br_some hl21 with ⟨h22, hl21⟩ | ⟨h22, hl21⟩
   ·refine WC.condT2 (fun fb => by kernel_rfl) h22 ?_
    refine WC.skip (WX.next (WC.seq (WC.block (WC.seq (WC.region ?_)))))
    refine sg 2 [] [0, 1, 5, 6, 22, 23] [e3, (1, (.func (.func 66) #[] e6)), e9, e5, (22, (sv A9 l11 c10)), (23, (iv x13))] (by kernel_rfl) ?_
    obtain ⟨h23, hl21⟩ := as_some hl21
    refine seg 4 [.v (iv (e1.N)), .v (iv (e1.E)), .v (iv (e1.S)), .v (iv (e1.W))] [0, 1, 5, 6, 25] [e3, (1, (.func (.func 66) #[] e6)), e9, e5, (25, (.agg e2))] [.idx A9 x13 l11.length, .cell e4 (iv (e1.N)), .cell (e4.add 1) (iv (e1.E)), .cell (e4.add 2) (iv (e1.S)), .cell (e4.add 3) (iv (e1.W))] (fun fb => by kernel_rfl) rfl ⟨rowR.adr (rowO.rd (hS20.own 0).1) h23.1 h23.2, rowR.cell (rowO.rd (hS20.own 0).1) z_Tile h23.1 h23.2 0 rfl, rowR.cell (rowO.rd (hS20.own 0).1) z_Tile h23.1 h23.2 1 rfl, rowR.cell (rowO.rd (hS20.own 0).1) z_Tile h23.1 h23.2 2 rfl, rowR.cell (rowO.rd (hS20.own 0).1) z_Tile h23.1 h23.2 3 rfl, trivial⟩ ?_
    refine WL.new hS20 7 [] (fun g => (pt g)) (.cells #[(iv 0), (iv 0), (iv 0), (iv 0)] 44 (0, 0)) [] (fun fb g => by kernel_rfl) trivial (fun g24 w25 hS26 => ?_)
    refine ⟨trivial, ?_⟩
    refine WL.store hS26 0 rfl e7 e2 (fun fb => by kernel_rfl) (by kernel_rfl) rfl [1] (by decide) (by decide) (fun w27 hS28 => ?_)
    refine ⟨trivial, ?_⟩
    refine WL.done rfl (WX.next (WC.seq (WC.region ?_)))
    refine seg 2 [.v (iv (e1.N)), .v (iv (e1.E)), .v (iv (e1.S)), .v (iv (e1.W))] [0, 1, 5, 6, 7, 26, 27] [e3, (1, (.func (.func 66) #[] e6)), e9, e5, (7, (pt g24)), (26, (.func (.func 66) #[] e6)), (27, (.agg e2))] [.cell ⟨g24, 0, none⟩ (iv (e1.N)), .cell ⟨g24, 1, none⟩ (iv (e1.E)), .cell ⟨g24, 2, none⟩ (iv (e1.S)), .cell ⟨g24, 3, none⟩ (iv (e1.W))] (fun fb => by kernel_rfl) rfl ⟨hS28.cell 0 rfl 0 rfl, hS28.cell 0 rfl 1 rfl, hS28.cell 0 rfl 2 rfl, hS28.cell 0 rfl 3 rfl, trivial⟩ ?_
    obtain ⟨t29, ht30, hl21⟩ := bind_some hl21
    refine WL.call (some 28) 66 #[(.agg e2), (pt ga)] (fun fb => by kernel_rfl) (weight_acyclic_1_calls e1 p1_0 ga gm_p1_0 t29 _ (hS28.rd 0) (hS28.rd 1) ht30) (fun v w31 hR32 => ?_)
    obtain ⟨rfl, hk_⟩ := hR32
    have hS33 := hS28.keepN hk_
    refine ⟨trivial, ?_⟩
    refine sg 4 [] [0, 1, 5, 6, 7, 29] [e3, (1, (.func (.func 66) #[] e6)), e9, e5, (7, (pt g24)), (29, (bv (!t29)))] (by kernel_rfl) ?_
    refine WL.done rfl (WX.next ?_)
    obtain ⟨x36, hx37, hl21⟩ := bind_some hl21
    refine WC.cutN (T := ((List Tile) × Int) × (Option Addr) × Nat) (fun t => [(0, (sv t.2.1 t.1.1 t.2.2)), (1, (.func (.func 66) #[] e6)), (5, (iv t.1.2)), e5]) (fun t w1 => St e8 w w1 [blk gm_p1_0 (mapObj (vI .i64) vB p1_0), blk ga (.cells #[(.map (some gm_p1_0))] 91 (0, 0))] [rowO 44 enc_Tile t.2.1 t.2.2 t.1.1] ∧ x36 = t.1) (fun Kx36 => ?_) ?_
    ·
     rcases br_some hx37 with ⟨h38, hx37⟩ | ⟨h38, hx37⟩
     ·refine WC.condT2 (fun fb => by kernel_rfl) h38 ?_
      refine WC.seq (WC.region ?_)
      refine seg 3 [.v (iv (e1.N)), .v (iv (e1.E)), .v (iv (e1.S)), .v (iv (e1.W))] [0, 1, 5, 6, 30, 31, 32] [e3, (1, (.func (.func 66) #[] e6)), e9, e5, (30, (sv A9 l11 c10)), (31, (iv x12)), (32, (.agg e2))] [.cell ⟨g24, 0, none⟩ (iv (e1.N)), .cell ⟨g24, 1, none⟩ (iv (e1.E)), .cell ⟨g24, 2, none⟩ (iv (e1.S)), .cell ⟨g24, 3, none⟩ (iv (e1.W))] (fun fb => by kernel_rfl) rfl ⟨hS33.cell 0 rfl 0 rfl, hS33.cell 0 rfl 1 rfl, hS33.cell 0 rfl 2 rfl, hS33.cell 0 rfl 3 rfl, trivial⟩ ?_
      obtain ⟨h39, hx37⟩ := as_some hx37
      refine seg 4 [] [0, 1, 5, 6, 32, 33] [e3, (1, (.func (.func 66) #[] e6)), e9, e5, (32, (.agg e2)), (33, (.pointer (some ((adr A9).add ((x12).toNat * 4)))))] [.idx A9 x12 l11.length] (fun fb => by kernel_rfl) rfl ⟨rowR.adr (rowO.rd (hS33.own 1).1) h39.1 h39.2, trivial⟩ ?_
      refine WL.storeRow hS33 1 rfl (x12) (e1) (z_Tile) e7 (fun fb => by kernel_rfl) h39.1 h39.2 (by kernel_rfl) rfl [0] (by decide) (by decide) (fun w40 hS41 => ?_)
      refine ⟨trivial, ?_⟩
      refine WL.reE [0, 1, 5, 6] [(0, (.slice A9 l11.length c10)), (1, (.func (.func 66) #[] #[(pt ga)])), (5, (iv x12)), (6, (iv x13))] [(0, (.slice A9 (l11.set (x12).toNat (rdD l11 x13 z_Tile)).length c10)), (1, (.func (.func 66) #[] #[(pt ga)])), (5, (iv x12)), (6, (iv x13))] rfl (by simp only [List.length_set]) ?_
      refine WL.done rfl (WX.next (WC.region ?_))
      refine sg 3 [] [0, 1, 5, 6] [(0, (sv A9 (l11.set (x12).toNat e1) c10)), (1, (.func (.func 66) #[] e6)), (5, (iv (w64 (x12 + 1)))), e5] (by kernel_rfl) ?_
      refine WL.done rfl ?_
      injection hx37 with hx37
      exact WX.to Kx36 ((l11.set (x12).toNat e1, w64 (x12 + 1)), A9, c10) [0, 1, 5, 6] rfl ⟨(hS41.subR [0, 1]).sub [0] (by decide), hx37.symm⟩
     refine WC.condF2 (fun fb => by kernel_rfl) h38 ?_
     refine WC.skip ?_
     injection hx37 with hx37
     exact WX.to Kx36 ((l11, x12), A9, c10) [0, 1, 5, 6] rfl ⟨(hS33.subR [0, 1]).sub [1] (by decide), hx37.symm⟩
    rintro ⟨y45, A34, c35⟩ w42 ⟨hS43, hq44⟩
    subst hq44
    refine WX.blockN (WX.next ?_)
    refine WC.region ?_
    refine sg 3 [] [0, 1, 5, 6] [(0, (sv A34 x36.1 c35)), (1, (.func (.func 66) #[] e6)), (5, (iv x36.2)), (6, (iv (w64 (x13 + 1))))] (by kernel_rfl) ?_
    refine WL.done rfl ?_
    exact WX.again k18 (Nat.lt_succ_self _) ((x36.1, x36.2, w64 (x13 + 1)), A34, c35) [0, 1, 5, 6] rfl ⟨(hS43.subR [0, 1]).sub [0] (by decide), hl21⟩
   refine WC.condF2 (fun fb => by kernel_rfl) h22 ?_
   refine WC.exit ?_
   injection hl21 with hl21
   exact WX.thenX (WX.thenX (WX.blockHere (WX.to Kx16 ((l11, x12), A9, c10) [0, 5] rfl ⟨(hS20.subR [0, 1]).sub [0] (by decide), hl21.symm⟩)))
 rintro ⟨y49, A14, c15⟩ w46 ⟨hS47, hq48⟩
 subst hq48
 refine WX.next (WC.seq (WC.region ?_))
 refine sg 2 [] [0, 5, 36, 37] [(0, (sv A14 x16.1 c15)), (5, (iv x16.2)), (36, (sv A14 x16.1 c15)), (37, (iv x16.2))] (by kernel_rfl) ?_
 obtain ⟨h50, hf⟩ := as_some hf
 refine seg 3 [] [0, 5, 38] [(0, (sv A14 x16.1 c15)), (5, (iv x16.2)), (38, (.slice (subA A14 c15 x16.2.toNat 4) ((x16.1.length : Int).toNat - x16.2.toNat) (c15 - x16.2.toNat)))] [.idx (some ⟨0, 0, none⟩) x16.2 ((x16.1.length : Int).toNat + 1), .idx (some ⟨0, 0, none⟩) (x16.1.length : Int) (c15 + 1)] (fun fb => by kernel_rfl) rfl ⟨cut1 h50.1 h50.2.1, cut2 h50.1 h50.2.1 h50.2.2 (rowO.rd (hS47.own 0).1).2, trivial⟩ ?_
 refine WL.reE [0, 5, 38] [(0, (.slice A14 x16.1.length c15)), (5, (iv x16.2)), (38, (.slice (subA A14 c15 x16.2.toNat 4) ((x16.1.length : Int).toNat - x16.2.toNat) (c15 - x16.2.toNat)))] [(0, (.slice A14 x16.1.length c15)), (5, (iv x16.2)), (38, (.slice (subA A14 c15 x16.2.toNat 4) (cut x16.1 x16.2 (x16.1.length : Int)).length (c15 - x16.2.toNat)))] rfl (by rw [cut_length h50.1 h50.2.1 h50.2.2]) ?_
 refine WL.clearV hS47 0 (tS := 22) (z := (.agg #[(iv 0), (iv 0), (iv 0), (iv 0)])) rfl x16.2 (fun fb => by kernel_rfl) h50.1 h50.2.1 (by kernel_rfl) (fun w => by kernel_rfl) (by kernel_rfl) (by kernel_rfl) (by decide) [] (by decide) (by decide) (fun w51 hS52 => ?_)
 refine ⟨trivial, ?_⟩
 refine WL.done rfl (WX.next (WC.seq (WC.region ?_)))
 refine sg 2 [] [39, 40] [(39, (sv A14 x16.1 c15)), (40, (iv x16.2))] (by kernel_rfl) ?_
 refine seg 3 [] [41] [(41, (.slice (subA A14 c15 (0 : Int).toNat 4) (x16.2.toNat - (0 : Int).toNat) (c15 - (0 : Int).toNat)))] [.idx (some ⟨0, 0, none⟩) 0 (x16.2.toNat + 1), .idx (some ⟨0, 0, none⟩) x16.2 (c15 + 1)] (fun fb => by kernel_rfl) rfl ⟨cut1 (Int.le_refl 0) h50.1, cut2 (Int.le_refl 0) h50.1 (take_le (xs := x16.1) h50.1 h50.2.1) (rowO.rd (hS52.own 0).1).2, trivial⟩ ?_
 refine WL.reE [41] [(41, (.slice (subA A14 c15 (0 : Int).toNat 4) (x16.2.toNat - (0 : Int).toNat) (c15 - (0 : Int).toNat)))] [(41, (.slice A14 (x16.1.take x16.2.toNat).length c15))] rfl (by rw [hdr_take (xs := x16.1) (hS52.own 0).1 h50.1 h50.2.1]) ?_
 refine sg 4 [] [4] [(4, (sv A14 (x16.1.take x16.2.toNat) c15))] (by kernel_rfl) ?_
 refine WL.done rfl (WX.next ?_)
 refine WC.ret ?_
 injection hf with hf
 subst hf
 exact WX.ret_ [] (sv A14 (x16.1.take x16.2.toNat) c15) [] (fun fb => by kernel_rfl) trivial ⟨_, rfl, A14, c15, rfl, (hS52.sub [0] (by decide)).noR⟩
theorem weight_acyclic_key3 : KeyK Tryz.prog 3 (vI .i64) := KeyK.int (by kernel_rfl)
theorem weight_acyclic_calls (k : Nat) (p0 : List Tile) (Aa : Option Addr) (ca : Nat) (r : Bool) (w : World) (hR0 : RO NoS w (rowR enc_Tile Aa ca p0)) (hf : weight_acyclic k p0 = some r) :
  CallsR Tryz.prog 32 #[(sv Aa p0 ca)] w (fun v w' => v = (bv r) ∧ Keeps NoS w w') := by
 have hS : St NoS w w [rowR enc_Tile Aa ca p0] [] := St.init (ro_cons hR0 (ro_nil _ _))
 refine enter 31 Tryz.func32 rfl Tryz.ntmps32 rfl ?_
 unfold weight_acyclic at hf
 refine WC.seq (WC.region ?_)
 refine sg 1 [] [0] [(0, (sv Aa p0 ca))] (by kernel_rfl) ?_
 refine WL.done rfl (WX.next (WC.seq ?_))
 obtain ⟨x7, hx8, hf⟩ := bind_some hf
 refine WC.cutN (T := Unit) (fun t => []) (fun t w1 => St NoS w w1 [rowR enc_Tile Aa ca p0] [] ∧ x7 = .inr t) (fun Kx7 => ?_) ?_
 ·
  refine WC.block ?_
  refine WC.loop (T := (List Tile) × (Option Addr) × Nat) (fun t => [(0, (sv t.2.1 t.1 t.2.2))]) (fun n t w1 => St NoS w w1 [rowR enc_Tile t.2.1 t.2.2 t.1, rowR enc_Tile Aa ca p0] [] ∧ weight_acyclic.l0 n t.1 = some x7) k (p0, Aa, ca) [0] rfl ⟨(hS.subR [0, 0]).sub [] (by decide), hx8⟩ ?_
  rintro k9 ⟨l6, A4, c5⟩ w10 ⟨hS11, hl12⟩
  let e2 := sv A4 l6 c5
  let e3 : Nat × Value := (12, (iv (l6.length : Int)))
  cases k9 with
  | zero => rw [weight_acyclic.l0] at hl12; cases hl12
  | succ k9 =>
   rw [weight_acyclic.l0] at hl12
   refine WC.seq (WC.seq (WC.region ?_))
   refine sg 3 [] [0, 9] [(0, e2), (9, (bv (decide ((l6.length : Int) > 0))))] (by kernel_rfl) ?_
   refine WL.done rfl (WX.next ?_)
   rcases br_some hl12 with ⟨h13, hl12⟩ | ⟨h13, hl12⟩
   ·refine WC.condT2 (fun fb => by kernel_rfl) h13 ?_
    refine WC.skip (WX.next (WC.block (WC.seq (WC.region ?_))))
    refine WL.new hS11 10 [] (fun g => (.map (some g))) (mapObj (vI .i64) vB ([] : List (Int × Bool))) [] (fun fb g => by kernel_rfl) trivial (fun g14 w15 hS16 => ?_)
    refine ⟨trivial, ?_⟩
    refine WL.new hS16 3 [] (fun g => (pt g)) (.cells #[(.map none)] 91 (0, 0)) [] (fun fb g => by kernel_rfl) trivial (fun g17 w18 hS19 => ?_)
    refine ⟨trivial, ?_⟩
    refine WL.store hS19 0 rfl [(0, (.map (some g14)))] #[(.map (some g14))] (fun fb => by kernel_rfl) (by kernel_rfl) rfl [1] (by decide) (by decide) (fun w20 hS21 => ?_)
    refine ⟨trivial, ?_⟩
    refine WL.done rfl (WX.next (WC.seq (WC.seq (WC.region ?_))))
    refine sg 3 [] [0, 3, 11, 12, 13] [(0, e2), (3, (pt g17)), (11, e2), e3, (13, (iv 0))] (by kernel_rfl) ?_
    refine WL.done rfl (WX.next ?_)
    obtain ⟨x24, hx25, hl12⟩ := bind_some hl12
    refine WC.cutN (T := (List (Int × Bool))) (fun t => [(0, e2), (3, (pt g17))]) (fun t w1 => St NoS w w1 [rowR enc_Tile A4 c5 l6, rowR enc_Tile Aa ca p0] [blk g17 (.cells #[(.map (some g14))] 91 (0, 0)), blk g14 (mapObj (vI .i64) vB t)] ∧ x24 = t) (fun Kx24 => ?_) ?_
    ·
     refine WC.block ?_
     refine WC.loop (T := (List (Int × Bool)) × Int) (fun t => [(0, e2), (3, (pt g17)), (11, e2), e3, (13, (iv t.2))]) (fun n t w1 => St NoS w w1 [rowR enc_Tile A4 c5 l6, rowR enc_Tile Aa ca p0] [blk g17 (.cells #[(.map (some g14))] 91 (0, 0)), blk g14 (mapObj (vI .i64) vB t.1)] ∧ weight_acyclic.l1 n t.1 t.2 l6 = some x24) k9 (([] : List (Int × Bool)), 0) [0, 3, 11, 12, 13] rfl ⟨(hS21.subR [0, 1]).sub [0, 1] (by decide), hx25⟩ ?_
     rintro k26 ⟨l22, x23⟩ w27 ⟨hS28, hl29⟩
     let e1 := rdD l6 x23 z_Tile
     let e4 := (adr A4).add ((x23).toNat * 4)
     let e5 := iv (e1.W)
     cases k26 with
     | zero => rw [weight_acyclic.l1] at hl29; cases hl29
     | succ k26 =>
      rw [weight_acyclic.l1] at hl29
      refine WC.seq (WC.region ?_)
      refine sg 1 [] [0, 3, 11, 12, 13, 14] [(0, e2), (3, (pt g17)), (11, e2), e3, (13, (iv x23)), (14, (bv (decide (x23 < (l6.length : Int)))))] (by kernel_rfl) ?_
      refine WL.done rfl (WX.next (WC.seq ?_))
      rcases br_some hl29 with ⟨h30, hl29⟩ | ⟨h30, hl29⟩
      ·refine WC.condT2 (fun fb => by kernel_rfl) h30 ?_
       refine WC.skip (WX.next (WC.seq (WC.block (WC.seq (WC.region ?_)))))
       obtain ⟨h31, hl29⟩ := as_some hl29
       refine seg 2 [.v (iv (e1.N)), .v (iv (e1.E)), .v (iv (e1.S)), .v e5] [0, 3, 11, 12, 13, 16] [(0, e2), (3, (pt g17)), (11, e2), e3, (13, (iv x23)), (16, (.agg #[(iv (e1.N)), (iv (e1.E)), (iv (e1.S)), e5]))] [.idx A4 x23 l6.length, .cell e4 (iv (e1.N)), .cell (e4.add 1) (iv (e1.E)), .cell (e4.add 2) (iv (e1.S)), .cell (e4.add 3) e5] (fun fb => by kernel_rfl) rfl ⟨rowR.adr (hS28.rd 0).1 h31.1 h31.2, rowR.cell (hS28.rd 0).1 z_Tile h31.1 h31.2 0 rfl, rowR.cell (hS28.rd 0).1 z_Tile h31.1 h31.2 1 rfl, rowR.cell (hS28.rd 0).1 z_Tile h31.1 h31.2 2 rfl, rowR.cell (hS28.rd 0).1 z_Tile h31.1 h31.2 3 rfl, trivial⟩ ?_
       refine WL.new hS28 5 [] (fun g => (pt g)) (.cells #[(iv 0), (iv 0), (iv 0), (iv 0)] 44 (0, 0)) [] (fun fb g => by kernel_rfl) trivial (fun g33 w34 hS35 => ?_)
       refine ⟨trivial, ?_⟩
       refine WL.store hS35 0 rfl [(0, (iv (e1.N))), (1, (iv (e1.E))), (2, (iv (e1.S))), (3, e5)] #[(iv (e1.N)), (iv (e1.E)), (iv (e1.S)), e5] (fun fb => by kernel_rfl) (by kernel_rfl) rfl [1, 2] (by decide) (by decide) (fun w36 hS37 => ?_)
       refine ⟨trivial, ?_⟩
       refine WL.done rfl (WX.next (WC.region ?_))
       refine seg 3 [.v (.map (some g14)), .v e5] [0, 3, 11, 12, 13, 17, 19] [(0, e2), (3, (pt g17)), (11, e2), e3, (13, (iv x23)), (17, (.map (some g14))), (19, e5)] [.cell ⟨g17, 0, none⟩ (.map (some g14)), .cell ⟨g33, 3, none⟩ e5] (fun fb => by kernel_rfl) rfl ⟨hS37.cell 1 rfl 0 rfl, hS37.cell 0 rfl 3 rfl, trivial⟩ ?_
       refine WL.mapput hS37 2 (t := 91) (kT := 3) (eT := 4) (kE := (vI .i64)) (vE := vB) (l := l22) rfl (e1.W) true (fun fb => by kernel_rfl) weight_acyclic_key3 (by kernel_rfl) [0, 1] (by decide) (by decide) (fun w38 hS39 => ?_)
       refine ⟨trivial, ?_⟩
       refine WL.done rfl ?_
       refine WX.blockN (WX.next ?_)
       refine WC.region ?_
       refine sg 2 [] [0, 3, 11, 12, 13] [(0, e2), (3, (pt g17)), (11, e2), e3, (13, (iv (w64 (x23 + 1))))] (by kernel_rfl) ?_
       refine WL.done rfl ?_
       exact WX.again k26 (Nat.lt_succ_self _) (mput (e1.W) true l22, w64 (x23 + 1)) [0, 3, 11, 12, 13] rfl ⟨(hS39.subR [0, 1]).sub [2, 0] (by decide), hl29⟩
      refine WC.condF2 (fun fb => by kernel_rfl) h30 ?_
      refine WC.exit ?_
      injection hl29 with hl29
      exact WX.thenX (WX.thenX (WX.blockHere (WX.to Kx24 l22 [0, 3] rfl ⟨(hS28.subR [0, 1]).sub [0, 1] (by decide), hl29.symm⟩)))
    rintro y43 w40 ⟨hS41, hq42⟩
    subst hq42
    refine WX.next (WC.seq (WC.region ?_))
    refine sg 1 [] [0, 3, 21] [(0, e2), (3, (pt g17)), (21, e2)] (by kernel_rfl) ?_
    obtain ⟨t44, ht45, hl12⟩ := bind_some hl12
    refine WL.call (some 22) 65 #[e2] (fun fb => by kernel_rfl) (slices_Clone_api_Tile_api_Tile_calls l6 A4 c5 t44 _ (hS41.rd 0) ht45) (fun v w46 hR47 => ?_)
    obtain ⟨A49, c50, rfl, hk_⟩ := hR47
    have hS48 : St NoS w w46 [rowR enc_Tile A4 c5 l6, rowR enc_Tile Aa ca p0] [rowO 44 enc_Tile A49 c50 t44, blk g17 (.cells #[(.map (some g14))] 91 (0, 0)), blk g14 (mapObj (vI .i64) vB x24)] := hS41.call hk_ [] [0, 1] (fun g hg => hg.elim) (by simp) (by decide)
    refine ⟨trivial, ?_⟩
    refine sg 3 [] [0, 22, 23] [(0, e2), (22, (sv A49 t44 c50)), (23, (.func (.func 66) #[] #[(pt g17)]))] (by kernel_rfl) ?_
    obtain ⟨t51, ht52, hl12⟩ := bind_some hl12
    refine WL.call (some 24) 64 #[(sv A49 t44 c50), (.func (.func 66) #[] #[(pt g17)])] (fun fb => by kernel_rfl) (slices_DeleteFunc_api_Tile_api_Tile_with_weight_acyclic_1_calls _ t44 x24 A49 c50 g17 g14 t51 _ (hS48.owT [0] 2 (by decide)) (hS48.owT [0] 1 (by decide)) (hS48.io [0] (by decide)) ht52) (fun v w53 hR54 => ?_)
    obtain ⟨A56, c57, rfl, hk_⟩ := hR54
    have hS55 := hS48.go w53 [rowO 44 enc_Tile A56 c57 t51, blk g17 (.cells #[(.map (some g14))] 91 (0, 0)), blk g14 (mapObj (vI .i64) vB x24)] (hS48.call hk_ [0] [1, 2] (fun g hg => fpL_sel g hg) (by decide) (by decide))
    refine ⟨trivial, ?_⟩
    refine sg 5 [] [0, 6] [(0, e2), (6, (sv A56 t51 c57))] (by kernel_rfl) ?_
    refine WL.done rfl (WX.next (WC.seq (WC.seq (WC.region ?_))))
    refine sg 5 [] [6, 29] [(6, (sv A56 t51 c57)), (29, (bv ((t51.length : Int) == (l6.length : Int))))] (by kernel_rfl) ?_
    refine WL.done rfl (WX.next ?_)
    rcases br_some hl12 with ⟨h58, hl12⟩ | ⟨h58, hl12⟩
    ·refine WC.condT2 (fun fb => by kernel_rfl) h58 ?_
     refine WC.seq (WC.region ?_)
     refine sg 1 [] [2] [(2, (bv false))] (by kernel_rfl) ?_
     refine WL.done rfl (WX.next ?_)
     refine WC.ret ?_
     injection hl12 with hl12
     subst hl12
     injection hf with hf
     subst hf
     exact WX.thenR (WX.blockR (WX.thenR (WX.blockR (WX.thenR (WX.ret_ [] (bv false) [] (fun fb => by kernel_rfl) trivial ⟨_, rfl, rfl, hS55.keep⟩)))))
    refine WC.condF2 (fun fb => by kernel_rfl) h58 ?_
    refine WC.skip (WX.next (WC.region ?_))
    refine sg 2 [] [0] [(0, (sv A56 t51 c57))] (by kernel_rfl) ?_
    refine WL.done rfl ?_
    have hS59 := hS55.freezeRow 0 rfl [1, 2] (by decide) (by decide)
    exact WX.blockN (WX.again k9 (Nat.lt_succ_self _) (t51, A56, c57) [0] rfl ⟨(hS59.subR [0, 2]).sub [] (by decide), hl12⟩)
   refine WC.condF2 (fun fb => by kernel_rfl) h13 ?_
   refine WC.exit ?_
   injection hl12 with hl12
   exact WX.thenX (WX.thenX (WX.blockHere (WX.to Kx7 () [] rfl ⟨(hS11.subR [1]).sub [] (by decide), hl12.symm⟩)))
 rintro y63 w60 ⟨hS61, hq62⟩
 subst hq62
 have hf := sum_inr hf
 refine WX.next (WC.seq (WC.region ?_))
 refine sg 1 [] [2] [(2, (bv true))] (by kernel_rfl) ?_
 refine WL.done rfl (WX.next ?_)
 refine WC.ret ?_
 injection hf with hf
 subst hf
 exact WX.ret_ [] (bv true) [] (fun fb => by kernel_rfl) trivial ⟨_, rfl, rfl, hS61.keep⟩
theorem weight_Check_3_calls (k : Nat) (f0 : List Tile) (f1 : Weights) (ga : Nat) (Aa : Option Addr) (ca : Nat) (gb : Nat) (Ab : Option Addr) (cb : Nat) (Ac : Option Addr) (cc : Nat) (Ad : Option Addr) (cd : Nat) (Ae : Option Addr) (ce : Nat) (Af : Option Addr) (cf : Nat) (r : Bool) (w : World) (hR0 : RO NoS w (blk ga (.cells #[(sv Aa f0 ca)] 22 (0, 0)))) (hR1 : RO NoS w (rowR enc_Tile Aa ca f0)) (hR2 : RO NoS w (blk gb (.cells #[(sv Ab f1.Values cb), (sv Ac f1.Carries cc), (sv Ad f1.Factors cd), (sv Ae f1.Primes ce), (sv Af f1.Logs cf)] 26 (0, 0)))) (hR3 : RO NoS w (rowR enc_Frac Ab cb f1.Values)) (hR4 : RO NoS w (rowR enc_Frac Ac cc f1.Carries)) (hR5 : RO NoS w (rowR enc_Frac Ad cd f1.Factors)) (hR6 : RO NoS w (rowR encInt Ae ce f1.Primes)) (hR7 : RO NoS w (rowR encInt Af cf f1.Logs)) (hf : weight_Check_3 k f0 f1 = some r) :
  CallsR Tryz.prog 31 #[(pt ga), (pt gb)] w (fun v w' => v = (bv r) ∧ Keeps NoS w w') := by
 have hS : St NoS w w [blk ga (.cells #[(sv Aa f0 ca)] 22 (0, 0)), rowR enc_Tile Aa ca f0, blk gb (.cells #[(sv Ab f1.Values cb), (sv Ac f1.Carries cc), (sv Ad f1.Factors cd), (sv Ae f1.Primes ce), (sv Af f1.Logs cf)] 26 (0, 0)), rowR enc_Frac Ab cb f1.Values, rowR enc_Frac Ac cc f1.Carries, rowR enc_Frac Ad cd f1.Factors, rowR encInt Ae ce f1.Primes, rowR encInt Af cf f1.Logs] [] := St.init (ro_cons hR0 (ro_cons hR1 (ro_cons hR2 (ro_cons hR3 (ro_cons hR4 (ro_cons hR5 (ro_cons hR6 (ro_cons hR7 (ro_nil _ _)))))))))
 refine enter 27 Tryz.func31 rfl Tryz.ntmps31 rfl ?_
 unfold weight_Check_3 at hf
 refine WC.seq (WC.region ?_)
 refine sg 1 [] [0, 1] [(0, (pt ga)), (1, (pt gb))] (by kernel_rfl) ?_
 refine WL.done rfl (WX.next (WC.seq (WC.region ?_)))
 refine sg 1 [] [0, 1, 3] [(0, (pt ga)), (1, (pt gb)), (3, (.slice none 0 0))] (by kernel_rfl) ?_
 refine WL.done rfl (WX.next (WC.seq (WC.seq (WC.region ?_))))
 refine seg 3 [.v (sv Aa f0 ca)] [1, 3, 6, 7, 8] [(1, (pt gb)), (3, (.slice none 0 0)), (6, (sv Aa f0 ca)), (7, (iv (f0.length : Int))), (8, (iv 0))] [.cell ⟨ga, 0, none⟩ (sv Aa f0 ca)] (fun fb => by kernel_rfl) rfl ⟨blk_cell (hS.rd 0).1 0 rfl, trivial⟩ ?_
 refine WL.done rfl (WX.next ?_)
 have hS8 := hS.nilrow 44 enc_Tile
 obtain ⟨x15, hx16, hf⟩ := bind_some hf
 let e2 : Array Value := #[(sv Ab f1.Values cb), (sv Ac f1.Carries cc), (sv Ad f1.Factors cd), (sv Ae f1.Primes ce), (sv Af f1.Logs cf)]
 let e4 : Nat × Value := (7, (iv (f0.length : Int)))
 let e5 : Nat × Value := (6, (sv Aa f0 ca))
 let e7 : List Nat := [0, 1, 2, 3, 4, 5, 6, 7]
 let e8 : Nat × Value := (1, (pt gb))
 let e10 : List Nat := [1, 3, 6, 7, 8]
 refine WC.cutN (T := (List Tile) × (Option Addr) × Nat) (fun t => [(3, (sv t.2.1 t.1 t.2.2))]) (fun t w1 => St NoS w w1 [blk ga (.cells #[(sv Aa f0 ca)] 22 (0, 0)), rowR enc_Tile Aa ca f0, blk gb (.cells e2 26 (0, 0)), rowR enc_Frac Ab cb f1.Values, rowR enc_Frac Ac cc f1.Carries, rowR enc_Frac Ad cd f1.Factors, rowR encInt Ae ce f1.Primes, rowR encInt Af cf f1.Logs] [rowO 44 enc_Tile t.2.1 t.2.2 t.1] ∧ x15 = t.1) (fun Kx15 => ?_) ?_
 ·
  refine WC.block ?_
  refine WC.loop (T := ((List Tile) × Int) × (Option Addr) × Nat) (fun t => [e8, (3, (sv t.2.1 t.1.1 t.2.2)), e5, e4, (8, (iv t.1.2))]) (fun n t w1 => St NoS w w1 [blk ga (.cells #[(sv Aa f0 ca)] 22 (0, 0)), rowR enc_Tile Aa ca f0, blk gb (.cells e2 26 (0, 0)), rowR enc_Frac Ab cb f1.Values, rowR enc_Frac Ac cc f1.Carries, rowR enc_Frac Ad cd f1.Factors, rowR encInt Ae ce f1.Primes, rowR encInt Af cf f1.Logs] [rowO 44 enc_Tile t.2.1 t.2.2 t.1.1] ∧ weight_Check_3.l0 n t.1.1 t.1.2 f0 f1 = some x15) k ((([] : List Tile), 0), none, 0) e10 rfl ⟨(hS8.subR e7).sub [0] (by decide), hx16⟩ ?_
  rintro k17 ⟨⟨l11, x12⟩, A9, c10⟩ w18 ⟨hS19, hl20⟩
  let e1 := rdD f0 x12 z_Tile
  let e3 : Array Value := #[(iv (e1.N)), (iv (e1.E)), (iv (e1.S)), (iv (e1.W))]
  let e6 := (adr Aa).add ((x12).toNat * 4)
  let e9 := (rdD f1.Values (e1.S) z_Frac).Num
  let e11 : Nat × Value := (8, (iv x12))
  let e12 := iv (e1.S)
  let e13 : Nat × Value := (3, (sv A9 l11 c10))
  cases k17 with
  | zero => rw [weight_Check_3.l0] at hl20; cases hl20
  | succ k17 =>
   rw [weight_Check_3.l0] at hl20
   refine WC.seq (WC.region ?_)
   refine sg 1 [] [1, 3, 6, 7, 8, 9] [e8, e13, e5, e4, e11, (9, (bv (decide (x12 < (f0.length : Int)))))] (by kernel_rfl) ?_
   refine WL.done rfl (WX.next (WC.seq ?_))
   rcases br_some hl20 with ⟨h21, hl20⟩ | ⟨h21, hl20⟩
   ·refine WC.condT2 (fun fb => by kernel_rfl) h21 ?_
    refine WC.skip (WX.next (WC.seq (WC.block (WC.seq (WC.region ?_)))))
    obtain ⟨h22, hl20⟩ := as_some hl20
    refine seg 2 [.v (iv (e1.N)), .v (iv (e1.E)), .v e12, .v (iv (e1.W))] [1, 3, 6, 7, 8, 11] [e8, e13, e5, e4, e11, (11, (.agg e3))] [.idx Aa x12 f0.length, .cell e6 (iv (e1.N)), .cell (e6.add 1) (iv (e1.E)), .cell (e6.add 2) e12, .cell (e6.add 3) (iv (e1.W))] (fun fb => by kernel_rfl) rfl ⟨rowR.adr (hS19.rd 1).1 h22.1 h22.2, rowR.cell (hS19.rd 1).1 z_Tile h22.1 h22.2 0 rfl, rowR.cell (hS19.rd 1).1 z_Tile h22.1 h22.2 1 rfl, rowR.cell (hS19.rd 1).1 z_Tile h22.1 h22.2 2 rfl, rowR.cell (hS19.rd 1).1 z_Tile h22.1 h22.2 3 rfl, trivial⟩ ?_
    refine WL.new hS19 5 [] (fun g => (pt g)) (.cells #[(iv 0), (iv 0), (iv 0), (iv 0)] 44 (0, 0)) [] (fun fb g => by kernel_rfl) trivial (fun g23 w24 hS25 => ?_)
    refine ⟨trivial, ?_⟩
    refine WL.store hS25 0 rfl [(0, (iv (e1.N))), (1, (iv (e1.E))), (2, e12), (3, (iv (e1.W)))] e3 (fun fb => by kernel_rfl) (by kernel_rfl) rfl [1] (by decide) (by decide) (fun w26 hS27 => ?_)
    refine ⟨trivial, ?_⟩
    refine WL.done rfl (WX.next (WC.seq (WC.region ?_)))
    refine seg 4 [.v (sv Ab f1.Values cb), .v e12] [1, 3, 5, 6, 7, 8, 13, 15] [e8, e13, (5, (pt g23)), e5, e4, e11, (13, (sv Ab f1.Values cb)), (15, e12)] [.cell ⟨gb, 0, none⟩ (sv Ab f1.Values cb), .cell ⟨g23, 2, none⟩ e12] (fun fb => by kernel_rfl) rfl ⟨blk_cell (hS27.rd 2).1 0 rfl, hS27.cell 0 rfl 2 rfl, trivial⟩ ?_
    obtain ⟨h28, hl20⟩ := as_some hl20
    refine seg 8 [.v (iv e9)] [1, 3, 5, 6, 7, 8, 19] [e8, e13, (5, (pt g23)), e5, e4, e11, (19, (bv (e9 == 0)))] [.idx Ab (e1.S) f1.Values.length, .cell ((adr Ab).add ((e1.S).toNat * 2)) (iv e9)] (fun fb => by kernel_rfl) rfl ⟨rowR.adr (hS27.rd 3).1 h28.1 h28.2, rowR.cell (hS27.rd 3).1 z_Frac h28.1 h28.2 0 rfl, trivial⟩ ?_
    refine WL.done rfl (WX.next ?_)
    obtain ⟨x32, hx33, hl20⟩ := bind_some hl20
    refine WC.cutN (T := (List Tile) × (Option Addr) × Nat) (fun t => [e8, (3, (sv t.2.1 t.1 t.2.2)), e5, e4, e11]) (fun t w1 => St NoS w w1 [blk ga (.cells #[(sv Aa f0 ca)] 22 (0, 0)), rowR enc_Tile Aa ca f0, blk gb (.cells e2 26 (0, 0)), rowR enc_Frac Ab cb f1.Values, rowR enc_Frac Ac cc f1.Carries, rowR enc_Frac Ad cd f1.Factors, rowR encInt Ae ce f1.Primes, rowR encInt Af cf f1.Logs] [rowO 44 enc_Tile t.2.1 t.2.2 t.1] ∧ x32 = t.1) (fun Kx32 => ?_) ?_
    ·
     rcases br_some hx33 with ⟨h34, hx33⟩ | ⟨h34, hx33⟩
     ·refine WC.condT2 (fun fb => by kernel_rfl) h34 ?_
      refine WC.region ?_
      refine seg 2 [.v (iv (e1.N)), .v (iv (e1.E)), .v e12, .v (iv (e1.W))] [1, 6, 7, 8, 20, 21] [e8, e5, e4, e11, (20, (sv A9 l11 c10)), (21, (.agg e3))] [.cell ⟨g23, 0, none⟩ (iv (e1.N)), .cell ⟨g23, 1, none⟩ (iv (e1.E)), .cell ⟨g23, 2, none⟩ e12, .cell ⟨g23, 3, none⟩ (iv (e1.W))] (fun fb => by kernel_rfl) rfl ⟨hS27.cell 0 rfl 0 rfl, hS27.cell 0 rfl 1 rfl, hS27.cell 0 rfl 2 rfl, hS27.cell 0 rfl 3 rfl, trivial⟩ ?_
      refine WL.new hS27 22 [] (fun g => (.slice (some ⟨g, 0, none⟩) 1 1)) (.cells e3 44 (0, 0)) [] (fun fb g => by kernel_rfl) trivial (fun g35 w36 hS37 => ?_)
      refine ⟨trivial, ?_⟩
      have hS38 := hS.go w36 [rowO 44 enc_Tile (some ⟨g35, 0, none⟩) 1 [e1], blk g23 (.cells e3 44 (0, 0)), rowO 44 enc_Tile A9 c10 l11] (hS37.map1 0 _ (fun h => rowO.ofBlk h rfl (Nat.le_of_ble_eq_true (by kernel_rfl))) (fun _ h => by obtain ⟨_, h1, h2⟩ := h; injection h1 with h1; subst h1; exact h2) [1, 2] (by decide) (by decide))
      obtain ⟨h39, hx33⟩ := as_some hx33
      refine WL.append hS38 2 (d := 23) (tS := 22) (z := (.agg #[(iv 0), (iv 0), (iv 0), (iv 0)])) (bytes := 32) (c2 := 1) rfl (fun fb => by kernel_rfl) (rowO.rd (hS38.own 0).1) (by kernel_rfl) (by kernel_rfl) rfl (by decide) h39 (by decide) [0, 1] (by decide) (by decide) (fun A40 c41 w42 hS43 => ?_)
      refine ⟨trivial, ?_⟩
      refine sg 5 [] e10 [e8, (3, (sv A40 (l11 ++ [e1]) c41)), e5, e4, e11] (by kernel_rfl) ?_
      refine WL.done rfl ?_
      injection hx33 with hx33
      exact WX.to Kx32 (l11 ++ [e1], A40, c41) e10 rfl ⟨(hS43.subR e7).sub [0] (by decide), hx33.symm⟩
     refine WC.condF2 (fun fb => by kernel_rfl) h34 ?_
     refine WC.skip ?_
     injection hx33 with hx33
     exact WX.to Kx32 (l11, A9, c10) e10 rfl ⟨(hS27.subR e7).sub [1] (by decide), hx33.symm⟩
    rintro ⟨y47, A29, c30⟩ w44 ⟨hS45, hq46⟩
    subst hq46
    refine WX.blockN (WX.next ?_)
    refine WC.region ?_
    refine sg 2 [] e10 [e8, (3, (sv A29 x32 c30)), e5, e4, (8, (iv (w64 (x12 + 1))))] (by kernel_rfl) ?_
    refine WL.done rfl ?_
    exact WX.again k17 (Nat.lt_succ_self _) ((x32, w64 (x12 + 1)), A29, c30) e10 rfl ⟨(hS45.subR e7).sub [0] (by decide), hl20⟩
   refine WC.condF2 (fun fb => by kernel_rfl) h21 ?_
   refine WC.exit ?_
   injection hl20 with hl20
   exact WX.thenX (WX.thenX (WX.blockHere (WX.to Kx15 (l11, A9, c10) [3] rfl ⟨(hS19.subR e7).sub [0] (by decide), hl20.symm⟩)))
 rintro ⟨y51, A13, c14⟩ w48 ⟨hS49, hq50⟩
 subst hq50
 refine WX.next (WC.seq (WC.region ?_))
 refine sg 1 [] [25] [(25, (sv A13 x15 c14))] (by kernel_rfl) ?_
 obtain ⟨t52, ht53, hf⟩ := bind_some hf
 refine WL.call (some 26) 32 #[(sv A13 x15 c14)] (fun fb => by kernel_rfl) (weight_acyclic_calls _ x15 A13 c14 t52 _ (hS49.ow 0).ofO ht53) (fun v w54 hR55 => ?_)
 obtain ⟨rfl, hk_⟩ := hR55
 have hS56 := hS49.keepN hk_
 refine ⟨trivial, ?_⟩
 refine sg 3 [] [2] [(2, (bv t52))] (by kernel_rfl) ?_
 refine WL.done rfl (WX.next ?_)
 refine WC.ret ?_
 injection hf with hf
 subst hf
 exact WX.ret_ [] (bv t52) [] (fun fb => by kernel_rfl) trivial ⟨_, rfl, rfl, hS56.keep⟩
theorem weight_gcd_calls (k : Nat) (p0 : Int) (p1 : Int)  (r : Int) (w : World)  (hf : weight_gcd k p0 p1 = some r) :
  CallsR Tryz.prog 74 #[(iv p0), (iv p1)] w (fun v w' => v = (iv r) ∧ Keeps NoS w w') := by
 have hS : St NoS w w [] [] := St.init (ro_nil _ _)
 refine enter 12 Tryz.func74 rfl Tryz.ntmps74 rfl ?_
 unfold weight_gcd at hf
 refine WC.seq (WC.region ?_)
 refine sg 1 [] [0, 1] [(0, (iv p0)), (1, (iv p1))] (by kernel_rfl) ?_
 refine WL.done rfl (WX.next (WC.seq ?_))
 obtain ⟨x5, hx6, hf⟩ := bind_some hf
 refine WC.cutN (T := Int) (fun t => [(0, (iv t))]) (fun t w1 => St NoS w w1 [] [] ∧ x5 = t) (fun Kx5 => ?_) ?_
 ·
  refine WC.block ?_
  refine WC.loop (T := Int × Int) (fun t => [(0, (iv t.1)), (1, (iv t.2))]) (fun n t w1 => St NoS w w1 [] [] ∧ weight_gcd.l0 n t.1 t.2 = some x5) k (p0, p1) [0, 1] rfl ⟨(hS.subR []).sub [] (by decide), hx6⟩ ?_
  rintro k7 ⟨x3, x4⟩ w8 ⟨hS9, hl10⟩
  cases k7 with
  | zero => rw [weight_gcd.l0] at hl10; cases hl10
  | succ k7 =>
   rw [weight_gcd.l0] at hl10
   refine WC.seq (WC.seq (WC.region ?_))
   refine sg 2 [] [0, 1, 6] [(0, (iv x3)), (1, (iv x4)), (6, (bv (x4 != 0)))] (by kernel_rfl) ?_
   refine WL.done rfl (WX.next ?_)
   rcases br_some hl10 with ⟨h11, hl10⟩ | ⟨h11, hl10⟩
   ·refine WC.condT2 (fun fb => by kernel_rfl) h11 ?_
    refine WC.skip (WX.next (WC.block ?_))
    obtain ⟨h14, hl10⟩ := as_some hl10
    refine WC.regionD ([], [0, 1, 2, 3, 4, 5], [[], [], [], [1, 2], [0, 1], [0, 1, 2, 3, 4]]) [[0, 1, 2, 3, 4, 5]] (by kernel_rfl) (by kernel_rfl) (NoPanic.block (NoPanic.seq (NoPanic.block (NoPanic.seq (NoPanic.body))))) ?_
    have hS13 := hS9.drew
    revert hS13
    generalize World.drew w8 = w12
    intro hS13
    refine ⟨trivial, forallC ?_ (forallN)⟩
    refine seg 6 [] [0, 1] [(0, (iv x4)), (1, (iv (Int.tmod x3 x4)))] [.ne x4] (fun fb => by kernel_rfl) rfl ⟨h14, trivial⟩ ?_
    refine WL.done rfl ?_
    exact WX.blockN (WX.again k7 (Nat.lt_succ_self _) (x4, Int.tmod x3 x4) [0, 1] rfl ⟨(hS13.subR []).sub [] (by decide), hl10⟩)
   refine WC.condF2 (fun fb => by kernel_rfl) h11 ?_
   refine WC.exit ?_
   injection hl10 with hl10
   exact WX.thenX (WX.thenX (WX.blockHere (WX.to Kx5 x3 [0] rfl ⟨(hS9.subR []).sub [] (by decide), hl10.symm⟩)))
 rintro y18 w15 ⟨hS16, hq17⟩
 subst hq17
 refine WX.next (WC.seq (WC.region ?_))
 refine sg 2 [] [4] [(4, (iv x5))] (by kernel_rfl) ?_
 refine WL.done rfl (WX.next ?_)
 refine WC.ret ?_
 injection hf with hf
 subst hf
 exact WX.ret_ [] (iv x5) [] (fun fb => by kernel_rfl) trivial ⟨_, rfl, rfl, hS16.keep⟩
theorem weight_fraction_lowest_calls (k : Nat) (p0 : Fraction)  (r : Fraction) (w : World)  (hf : weight_fraction_lowest k p0 = some r) :
  CallsR Tryz.prog 50 #[(.agg #[(iv p0.Num), (iv p0.Den)])] w (fun v w' => v = (.agg #[(iv r.Num), (iv r.Den)]) ∧ Keeps NoS w w') := by
 have hS : St NoS w w [] [] := St.init (ro_nil _ _)
 refine enter 22 Tryz.func50 rfl Tryz.ntmps50 rfl ?_
 unfold weight_fraction_lowest at hf
 refine WC.seq (WC.region ?_)
 refine WL.new hS 1 [] (fun g => (pt g)) (.cells #[(iv p0.Num), (iv p0.Den)] 63 (0, 0)) [] (fun fb g => by kernel_rfl) trivial (fun g1 w2 hS3 => ?_)
 refine ⟨trivial, ?_⟩
 refine WL.new hS3 2 [] (fun g => (pt g)) (.cells #[(iv 0), (iv 0)] 63 (0, 0)) [] (fun fb g => by kernel_rfl) trivial (fun g4 w5 hS6 => ?_)
 refine ⟨trivial, ?_⟩
 refine WL.done rfl (WX.next (WC.seq (WC.region ?_)))
 refine seg 8 [.v (iv p0.Num), .v (iv p0.Num), .v (iv p0.Den)] [1, 2, 9, 11] [(1, (pt g1)), (2, (pt g4)), (9, (iv (maxI p0.Num (w64 (0 - p0.Num))))), (11, (iv p0.Den))] [.cell ⟨g1, 0, none⟩ (iv p0.Num), .cell ⟨g1, 0, none⟩ (iv p0.Num), .cell ⟨g1, 1, none⟩ (iv p0.Den)] (fun fb => by kernel_rfl) rfl ⟨hS6.cell 1 rfl 0 rfl, hS6.cell 1 rfl 0 rfl, hS6.cell 1 rfl 1 rfl, trivial⟩ ?_
 obtain ⟨t7, ht8, hf⟩ := bind_some hf
 refine WL.call (some 12) 74 #[(iv (maxI p0.Num (w64 (0 - p0.Num)))), (iv p0.Den)] (fun fb => by kernel_rfl) (weight_gcd_calls _ (maxI p0.Num (w64 (0 - p0.Num))) p0.Den t7 _ ht8) (fun v w9 hR10 => ?_)
 obtain ⟨rfl, hk_⟩ := hR10
 have hS11 := hS6.keepN hk_
 refine ⟨trivial, ?_⟩
 refine sg 10 [] [1, 2, 3] [(1, (pt g1)), (2, (pt g4)), (3, (iv t7))] (by kernel_rfl) ?_
 refine WL.done rfl (WX.next (WC.seq ?_))
 obtain ⟨h14, hf⟩ := as_some hf
 refine WC.regionD ([(1, ⟨g1, 0, none⟩, (iv p0.Num)), (5, ⟨g1, 1, none⟩, (iv p0.Den))], [0, 1, 2, 3, 4, 5, 6, 7, 8], [[], [0], [], [0, 1, 2], [], [4], [], [4, 5, 6], [0, 1, 2, 3, 4, 5, 6, 7], [0, 1, 2, 3, 4, 5, 6, 7, 8]]) [[0, 1, 2, 3, 4, 5, 6, 7, 8, 9]] (by kernel_rfl) (by kernel_rfl) (NoPanic.seq (NoPanic.body)) ?_
 have hS13 := hS11.drew
 revert hS13
 generalize World.drew w9 = w12
 intro hS13
 refine ⟨⟨hS13.cell 1 rfl 0 rfl, hS13.cell 1 rfl 1 rfl, trivial⟩, forallC ?_ (forallN)⟩
 refine segF 9 [.v (iv p0.Num), .v (iv p0.Den)] [2, 21] [(2, (pt g4)), (21, (.agg #[(iv (w64 (Int.tdiv p0.Num t7))), (iv (w64 (Int.tdiv p0.Den t7)))]))] [.ne t7, .ne t7] [0, 1] [(1, ⟨g1, 0, none⟩, (iv p0.Num)), (5, ⟨g1, 1, none⟩, (iv p0.Den))] (fun fb => by kernel_rfl) rfl ⟨h14, h14, trivial⟩ rfl ?_
 refine WL.store hS13 0 rfl [(0, (iv (w64 (Int.tdiv p0.Num t7)))), (1, (iv (w64 (Int.tdiv p0.Den t7))))] #[(iv (w64 (Int.tdiv p0.Num t7))), (iv (w64 (Int.tdiv p0.Den t7)))] (fun fb => by kernel_rfl) (by kernel_rfl) rfl [1] (by decide) (by decide) (fun w15 hS16 => ?_)
 refine ⟨trivial, ?_⟩
 refine WL.done rfl (WX.next ?_)
 refine WC.ret ?_
 injection hf with hf
 subst hf
 let e1 := iv (w64 (Int.tdiv p0.Num t7))
 let e2 := iv (w64 (Int.tdiv p0.Den t7))
 exact WX.ret_ [.v e1, .v e2] (.agg #[e1, e2]) [.cell ⟨g4, 0, none⟩ e1, .cell ⟨g4, 1, none⟩ e2] (fun fb => by kernel_rfl) ⟨hS16.cell 0 rfl 0 rfl, hS16.cell 0 rfl 1 rfl, trivial⟩ ⟨_, rfl, rfl, hS16.keep⟩
theorem weight_grows_calls (k : Nat) (p0 : Frac) (p1 : Weights) (Aa : Option Addr) (ca : Nat) (Ab : Option Addr) (cb : Nat) (Ac : Option Addr) (cc : Nat) (Ad : Option Addr) (cd : Nat) (Ae : Option Addr) (ce : Nat) (r : Bool) (w : World) (hR0 : RO NoS w (rowR enc_Frac Aa ca p1.Values)) (hR1 : RO NoS w (rowR enc_Frac Ab cb p1.Carries)) (hR2 : RO NoS w (rowR enc_Frac Ac cc p1.Factors)) (hR3 : RO NoS w (rowR encInt Ad cd p1.Primes)) (hR4 : RO NoS w (rowR encInt Ae ce p1.Logs)) (hf : weight_grows k p0 p1 = some r) :
  CallsR Tryz.prog 36 #[(.agg #[(iv p0.Num), (iv p0.Den)]), (.agg #[(sv Aa p1.Values ca), (sv Ab p1.Carries cb), (sv Ac p1.Factors cc), (sv Ad p1.Primes cd), (sv Ae p1.Logs ce)])] w (fun v w' => v = (bv r) ∧ Keeps NoS w w') := by
 have hS : St NoS w w [rowR enc_Frac Aa ca p1.Values, rowR enc_Frac Ab cb p1.Carries, rowR enc_Frac Ac cc p1.Factors, rowR encInt Ad cd p1.Primes, rowR encInt Ae ce p1.Logs] [] := St.init (ro_cons hR0 (ro_cons hR1 (ro_cons hR2 (ro_cons hR3 (ro_cons hR4 (ro_nil _ _))))))
 refine enter 66 Tryz.func36 rfl Tryz.ntmps36 rfl ?_
 unfold weight_grows at hf
 refine WC.seq (WC.region ?_)
 refine WL.new hS 2 [] (fun g => (pt g)) (.cells #[(iv p0.Num), (iv p0.Den)] 33 (0, 0)) [] (fun fb g => by kernel_rfl) trivial (fun g5 w6 hS7 => ?_)
 refine ⟨trivial, ?_⟩
 refine WL.new hS7 3 [] (fun g => (pt g)) (.cells #[(sv Aa p1.Values ca), (sv Ab p1.Carries cb), (sv Ac p1.Factors cc), (sv Ad p1.Primes cd), (sv Ae p1.Logs ce)] 26 (0, 0)) [] (fun fb g => by kernel_rfl) trivial (fun g8 w9 hS10 => ?_)
 refine ⟨trivial, ?_⟩
 refine sg 3 [] [2, 3] [(2, (pt g5)), (3, (pt g8))] (by kernel_rfl) ?_
 refine WL.done rfl (WX.next (WC.seq (WC.region ?_)))
 refine seg 1 [.v (iv p0.Num), .v (iv p0.Den)] [3, 9] [(3, (pt g8)), (9, (.agg #[(iv p0.Num), (iv p0.Den)]))] [.cell ⟨g5, 0, none⟩ (iv p0.Num), .cell ⟨g5, 1, none⟩ (iv p0.Den)] (fun fb => by kernel_rfl) rfl ⟨hS10.cell 1 rfl 0 rfl, hS10.cell 1 rfl 1 rfl, trivial⟩ ?_
 obtain ⟨t11, ht12, hf⟩ := bind_some hf
 refine WL.call (some 10) 50 #[(.agg #[(iv p0.Num), (iv p0.Den)])] (fun fb => by kernel_rfl) (weight_fraction_lowest_calls _ (Fraction.mk p0.Num p0.Den) t11 _ ht12) (fun v w13 hR14 => ?_)
 obtain ⟨rfl, hk_⟩ := hR14
 have hS15 := hS10.keepN hk_
 refine ⟨trivial, ?_⟩
 refine WL.new hS15 5 [] (fun g => (pt g)) (.cells #[(iv 0), (iv 0)] 63 (0, 0)) [] (fun fb g => by kernel_rfl) trivial (fun g16 w17 hS18 => ?_)
 refine ⟨trivial, ?_⟩
 refine WL.store hS18 0 rfl [(0, (iv t11.Num)), (1, (iv t11.Den))] #[(iv t11.Num), (iv t11.Den)] (fun fb => by kernel_rfl) (by kernel_rfl) rfl [1, 2] (by decide) (by decide) (fun w19 hS20 => ?_)
 refine ⟨trivial, ?_⟩
 refine WL.done rfl (WX.next (WC.seq (WC.region ?_)))
 refine sg 1 [] [3, 5, 6] [(3, (pt g8)), (5, (pt g16)), (6, (iv 0))] (by kernel_rfl) ?_
 refine WL.done rfl (WX.next (WC.seq (WC.seq (WC.region ?_))))
 refine seg 4 [.v (sv Ad p1.Primes cd)] [3, 5, 6, 12, 13, 14] [(3, (pt g8)), (5, (pt g16)), (6, (iv 0)), (12, (sv Ad p1.Primes cd)), (13, (iv (p1.Primes.length : Int))), (14, (iv 0))] [.cell ⟨g8, 3, none⟩ (sv Ad p1.Primes cd)] (fun fb => by kernel_rfl) rfl ⟨hS20.cell 1 rfl 3 rfl, trivial⟩ ?_
 refine WL.done rfl (WX.next ?_)
 obtain ⟨x25, hx26, hf⟩ := bind_some hf
 let e1 : List Own := [rowR enc_Frac Aa ca p1.Values, rowR enc_Frac Ab cb p1.Carries, rowR enc_Frac Ac cc p1.Factors, rowR encInt Ad cd p1.Primes, rowR encInt Ae ce p1.Logs]
 let e2 : Nat × Value := (13, (iv (p1.Primes.length : Int)))
 let e4 : Array Value := #[(sv Aa p1.Values ca), (sv Ab p1.Carries cb), (sv Ac p1.Factors cc), (sv Ad p1.Primes cd), (sv Ae p1.Logs ce)]
 let e5 : Nat × Value := (12, (sv Ad p1.Primes cd))
 let e6 : Nat × Value := (5, (pt g16))
 let e8 : List Nat := [3, 5, 6, 7, 8, 12, 13, 14]
 let e9 : Nat × Value := (3, (pt g8))
 let e13 : List Nat := [0, 1, 2, 3, 4]
 let e14 := sv Ae p1.Logs ce
 let e15 : List Nat := [3, 5, 6, 12, 13, 14]
 refine WC.cutN (T := Int × Int × Int) (fun t => [e6, (6, (iv t.2.2))]) (fun t w1 => St NoS w w1 e1 [blk g16 (.cells #[(iv t.1), (iv t.2.1)] 63 (0, 0))] ∧ x25 = t) (fun Kx25 => ?_) ?_
 ·
  refine WC.block ?_
  refine WC.loop (T := Int × Int × Int × Int) (fun t => [e9, e6, (6, (iv t.2.2.1)), e5, e2, (14, (iv t.2.2.2))]) (fun n t w1 => St NoS w w1 e1 [blk g8 (.cells e4 26 (0, 0)), blk g16 (.cells #[(iv t.1), (iv t.2.1)] 63 (0, 0))] ∧ weight_grows.l0 n t.1 t.2.1 t.2.2.1 t.2.2.2 p1 = some x25) k (t11.Num, t11.Den, 0, 0) e15 rfl ⟨(hS20.subR e13).sub [1, 0] (by decide), hx26⟩ ?_
  rintro k27 ⟨x21, x22, x23, x24⟩ w28 ⟨hS29, hl30⟩
  let e3 := rdD p1.Primes x24 0
  let e7 : Nat × Value := (14, (iv x24))
  let e10 : Nat × Value := (7, (iv x24))
  let e11 : Nat × Value := (8, (iv e3))
  let e12 := rdD p1.Logs x24 0
  cases k27 with
  | zero => rw [weight_grows.l0] at hl30; cases hl30
  | succ k27 =>
   rw [weight_grows.l0] at hl30
   refine WC.seq (WC.region ?_)
   refine sg 1 [] [3, 5, 6, 12, 13, 14, 15] [e9, e6, (6, (iv x23)), e5, e2, e7, (15, (bv (decide (x24 < (p1.Primes.length : Int)))))] (by kernel_rfl) ?_
   refine WL.done rfl (WX.next (WC.seq ?_))
   rcases br_some hl30 with ⟨h31, hl30⟩ | ⟨h31, hl30⟩
   ·refine WC.condT2 (fun fb => by kernel_rfl) h31 ?_
    refine WC.skip (WX.next (WC.seq (WC.block (WC.seq (WC.region ?_)))))
    refine sg 1 [] [3, 5, 6, 12, 13, 14, 16] [e9, e6, (6, (iv x23)), e5, e2, e7, (16, (iv x24))] (by kernel_rfl) ?_
    obtain ⟨h32, hl30⟩ := as_some hl30
    refine seg 5 [.v (iv e3)] e8 [e9, e6, (6, (iv x23)), e10, e11, e5, e2, e7] [.idx Ad x24 p1.Primes.length, .cell ((adr Ad).add ((x24).toNat * 1)) (iv e3)] (fun fb => by kernel_rfl) rfl ⟨rowR.adr (hS29.rd 3).1 h32.1 h32.2, rowR.cell (hS29.rd 3).1 0 h32.1 h32.2 0 rfl, trivial⟩ ?_
    refine WL.done rfl (WX.next (WC.seq ?_))
    obtain ⟨x35, hx37, hl30⟩ := bind_some hl30
    refine WC.cutN (T := Int × Int) (fun t => [e9, e6, (6, (iv t.2)), e10, e11, e5, e2, e7]) (fun t w1 => St NoS w w1 e1 [blk g8 (.cells e4 26 (0, 0)), blk g16 (.cells #[(iv t.1), (iv x22)] 63 (0, 0))] ∧ x35 = t) (fun Kx35 => ?_) ?_
    ·
     refine WC.block ?_
     refine WC.loop (T := Int × Int) (fun t => [e9, e6, (6, (iv t.2)), e10, e11, e5, e2, e7]) (fun n t w1 => St NoS w w1 e1 [blk g8 (.cells e4 26 (0, 0)), blk g16 (.cells #[(iv t.1), (iv x22)] 63 (0, 0))] ∧ weight_grows.l1 n t.1 t.2 p1 x24 = some x35) k27 (x21, x23) e8 rfl ⟨(hS29.subR e13).sub [0, 1] (by decide), hx37⟩ ?_
     rintro k38 ⟨x33, x34⟩ w39 ⟨hS40, hl41⟩
     cases k38 with
     | zero => rw [weight_grows.l1] at hl41; cases hl41
     | succ k38 =>
      rw [weight_grows.l1] at hl41
      refine WC.seq (WC.seq (WC.region ?_))
      refine seg 3 [.v (iv x33)] [3, 5, 6, 7, 8, 12, 13, 14, 20, 21] [e9, e6, (6, (iv x34)), e10, e11, e5, e2, e7, (20, (iv x33)), (21, (iv e3))] [.cell ⟨g16, 0, none⟩ (iv x33)] (fun fb => by kernel_rfl) rfl ⟨hS40.cell 1 rfl 0 rfl, trivial⟩ ?_
      obtain ⟨h42, hl41⟩ := as_some hl41
      refine seg 5 [] [3, 5, 6, 7, 8, 12, 13, 14, 23] [e9, e6, (6, (iv x34)), e10, e11, e5, e2, e7, (23, (bv ((Int.tmod x33 e3) == 0)))] [.ne e3] (fun fb => by kernel_rfl) rfl ⟨h42, trivial⟩ ?_
      refine WL.done rfl (WX.next ?_)
      rcases br_some hl41 with ⟨h43, hl41⟩ | ⟨h43, hl41⟩
      ·refine WC.condT2 (fun fb => by kernel_rfl) h43 ?_
       refine WC.skip (WX.next (WC.block (WC.seq (WC.region ?_))))
       refine seg 5 [.v (iv x33)] [3, 5, 6, 7, 8, 12, 13, 14, 27, 28] [e9, e6, (6, (iv x34)), e10, e11, e5, e2, e7, (27, (iv (w64 (Int.tdiv x33 e3)))), (28, (pt g16))] [.cell ⟨g16, 0, none⟩ (iv x33), .ne e3] (fun fb => by kernel_rfl) rfl ⟨hS40.cell 1 rfl 0 rfl, h42, trivial⟩ ?_
       refine WL.store hS40 1 rfl [(0, (iv (w64 (Int.tdiv x33 e3))))] #[(iv (w64 (Int.tdiv x33 e3))), (iv x22)] (fun fb => by kernel_rfl) (by kernel_rfl) rfl [0] (by decide) (by decide) (fun w44 hS45 => ?_)
       refine ⟨trivial, ?_⟩
       refine WL.done rfl (WX.next (WC.region ?_))
       refine seg 4 [.v e14] [3, 5, 7, 8, 12, 13, 14, 29, 31, 32] [e9, e6, e10, e11, e5, e2, e7, (29, (iv x34)), (31, e14), (32, (iv x24))] [.cell ⟨g8, 4, none⟩ e14] (fun fb => by kernel_rfl) rfl ⟨hS45.cell 1 rfl 4 rfl, trivial⟩ ?_
       obtain ⟨h46, hl41⟩ := as_some hl41
       refine seg 8 [.v (iv e12)] e8 [e9, e6, (6, (iv (w64 (x34 + e12)))), e10, e11, e5, e2, e7] [.idx Ae x24 p1.Logs.length, .cell ((adr Ae).add ((x24).toNat * 1)) (iv e12)] (fun fb => by kernel_rfl) rfl ⟨rowR.adr (hS45.rd 4).1 h46.1 h46.2, rowR.cell (hS45.rd 4).1 0 h46.1 h46.2 0 rfl, trivial⟩ ?_
       refine WL.done rfl ?_
       exact WX.blockN (WX.again k38 (Nat.lt_succ_self _) (w64 (Int.tdiv x33 e3), w64 (x34 + e12)) e8 rfl ⟨(hS45.subR e13).sub [1, 0] (by decide), hl41⟩)
      refine WC.condF2 (fun fb => by kernel_rfl) h43 ?_
      refine WC.exit ?_
      injection hl41 with hl41
      exact WX.thenX (WX.thenX (WX.blockHere (WX.to Kx35 (x33, x34) e8 rfl ⟨(hS40.subR e13).sub [0, 1] (by decide), hl41.symm⟩)))
    rintro y50 w47 ⟨hS48, hq49⟩
    subst hq49
    refine WX.next ?_
    obtain ⟨x53, hx54, hl30⟩ := bind_some hl30
    refine WC.cutN (T := Int × Int) (fun t => [e9, e6, (6, (iv t.2)), e5, e2, e7]) (fun t w1 => St NoS w w1 e1 [blk g8 (.cells e4 26 (0, 0)), blk g16 (.cells #[(iv x35.1), (iv t.1)] 63 (0, 0))] ∧ x53 = t) (fun Kx53 => ?_) ?_
    ·
     refine WC.block ?_
     refine WC.loop (T := Int × Int) (fun t => [e9, e6, (6, (iv t.2)), e10, e11, e5, e2, e7]) (fun n t w1 => St NoS w w1 e1 [blk g8 (.cells e4 26 (0, 0)), blk g16 (.cells #[(iv x35.1), (iv t.1)] 63 (0, 0))] ∧ weight_grows.l2 n t.1 t.2 p1 x24 = some x53) k27 (x22, x35.2) e8 rfl ⟨(hS48.subR e13).sub [0, 1] (by decide), hx54⟩ ?_
     rintro k55 ⟨x51, x52⟩ w56 ⟨hS57, hl58⟩
     cases k55 with
     | zero => rw [weight_grows.l2] at hl58; cases hl58
     | succ k55 =>
      rw [weight_grows.l2] at hl58
      refine WC.seq (WC.seq (WC.region ?_))
      refine seg 3 [.v (iv x51)] [3, 5, 6, 7, 8, 12, 13, 14, 37, 38] [e9, e6, (6, (iv x52)), e10, e11, e5, e2, e7, (37, (iv x51)), (38, (iv e3))] [.cell ⟨g16, 1, none⟩ (iv x51)] (fun fb => by kernel_rfl) rfl ⟨hS57.cell 1 rfl 1 rfl, trivial⟩ ?_
      obtain ⟨h59, hl58⟩ := as_some hl58
      refine seg 5 [] [3, 5, 6, 7, 8, 12, 13, 14, 40] [e9, e6, (6, (iv x52)), e10, e11, e5, e2, e7, (40, (bv ((Int.tmod x51 e3) == 0)))] [.ne e3] (fun fb => by kernel_rfl) rfl ⟨h59, trivial⟩ ?_
      refine WL.done rfl (WX.next ?_)
      rcases br_some hl58 with ⟨h60, hl58⟩ | ⟨h60, hl58⟩
      ·refine WC.condT2 (fun fb => by kernel_rfl) h60 ?_
       refine WC.skip (WX.next (WC.block (WC.seq (WC.region ?_))))
       refine seg 5 [.v (iv x51)] [3, 5, 6, 7, 8, 12, 13, 14, 44, 45] [e9, e6, (6, (iv x52)), e10, e11, e5, e2, e7, (44, (iv (w64 (Int.tdiv x51 e3)))), (45, (.pointer (some ⟨g16, 1, none⟩)))] [.cell ⟨g16, 1, none⟩ (iv x51), .ne e3] (fun fb => by kernel_rfl) rfl ⟨hS57.cell 1 rfl 1 rfl, h59, trivial⟩ ?_
       refine WL.store hS57 1 rfl [(1, (iv (w64 (Int.tdiv x51 e3))))] #[(iv x35.1), (iv (w64 (Int.tdiv x51 e3)))] (fun fb => by kernel_rfl) (by kernel_rfl) rfl [0] (by decide) (by decide) (fun w61 hS62 => ?_)
       refine ⟨trivial, ?_⟩
       refine WL.done rfl (WX.next (WC.region ?_))
       refine seg 4 [.v e14] [3, 5, 7, 8, 12, 13, 14, 46, 48, 49] [e9, e6, e10, e11, e5, e2, e7, (46, (iv x52)), (48, e14), (49, (iv x24))] [.cell ⟨g8, 4, none⟩ e14] (fun fb => by kernel_rfl) rfl ⟨hS62.cell 1 rfl 4 rfl, trivial⟩ ?_
       obtain ⟨h63, hl58⟩ := as_some hl58
       refine seg 8 [.v (iv e12)] e8 [e9, e6, (6, (iv (w64 (x52 - e12)))), e10, e11, e5, e2, e7] [.idx Ae x24 p1.Logs.length, .cell ((adr Ae).add ((x24).toNat * 1)) (iv e12)] (fun fb => by kernel_rfl) rfl ⟨rowR.adr (hS62.rd 4).1 h63.1 h63.2, rowR.cell (hS62.rd 4).1 0 h63.1 h63.2 0 rfl, trivial⟩ ?_
       refine WL.done rfl ?_
       exact WX.blockN (WX.again k55 (Nat.lt_succ_self _) (w64 (Int.tdiv x51 e3), w64 (x52 - e12)) e8 rfl ⟨(hS62.subR e13).sub [1, 0] (by decide), hl58⟩)
      refine WC.condF2 (fun fb => by kernel_rfl) h60 ?_
      refine WC.exit ?_
      injection hl58 with hl58
      exact WX.thenX (WX.thenX (WX.blockHere (WX.to Kx53 (x51, x52) e15 rfl ⟨(hS57.subR e13).sub [0, 1] (by decide), hl58.symm⟩)))
    rintro y68 w65 ⟨hS66, hq67⟩
    subst hq67
    refine WX.blockN (WX.next ?_)
    refine WC.region ?_
    refine sg 2 [] e15 [e9, e6, (6, (iv x53.2)), e5, e2, (14, (iv (w64 (x24 + 1))))] (by kernel_rfl) ?_
    refine WL.done rfl ?_
    exact WX.again k27 (Nat.lt_succ_self _) (x35.1, x53.1, x53.2, w64 (x24 + 1)) e15 rfl ⟨(hS66.subR e13).sub [0, 1] (by decide), hl30⟩
   refine WC.condF2 (fun fb => by kernel_rfl) h31 ?_
   refine WC.exit ?_
   injection hl30 with hl30
   exact WX.thenX (WX.thenX (WX.blockHere (WX.to Kx25 (x21, x22, x23) [5, 6] rfl ⟨(hS29.subR e13).sub [1] (by decide), hl30.symm⟩)))
 rintro y72 w69 ⟨hS70, hq71⟩
 subst hq71
 refine WX.next (WC.seq (WC.region ?_))
 refine seg 4 [.v (iv x25.1)] [5, 6, 57] [e6, (6, (iv x25.2.2)), (57, (bv (x25.1 == 1)))] [.cell ⟨g16, 0, none⟩ (iv x25.1)] (fun fb => by kernel_rfl) rfl ⟨hS70.cell 0 rfl 0 rfl, trivial⟩ ?_
 refine WL.cutV (T := Bool) 8 (fun t => [(61, (bv t)), (6, (iv x25.2.2))]) (fun t => ((x25.1 == 1) && (x25.2.1 == 1)) = t) (fun K => ?_) ?_
 ·
  rcases Bool.eq_false_or_eq_true (x25.1 == 1) with h73 | h73
  ·
   refine WL.setB 57 h73 rfl ?_
   refine seg 8 [.v (iv x25.2.1)] [6, 61] [(6, (iv x25.2.2)), (61, (bv (x25.2.1 == 1)))] [.cell ⟨g16, 1, none⟩ (iv x25.2.1)] (fun fb => by kernel_rfl) rfl ⟨hS70.cell 0 rfl 1 rfl, trivial⟩ ?_
   exact WL.toV K (x25.2.1 == 1) [61, 6] rfl (by first | (rw [h73]; done) | (rw [h73]; rfl))
  refine WL.setB 57 h73 rfl ?_
  refine sg 8 [] [6, 61] [(6, (iv x25.2.2)), (61, (bv false))] (by kernel_rfl) ?_
  exact WL.toV K false [61, 6] rfl (by first | (rw [h73]; done) | (rw [h73]; rfl))
 rintro b74 rfl
 refine sg 9 [] [6, 62] [(6, (iv x25.2.2)), (62, (bv ((x25.1 == 1) && (x25.2.1 == 1))))] (by kernel_rfl) ?_
 refine WL.cutV (T := Bool) 12 (fun t => [(65, (bv t))]) (fun t => (((x25.1 == 1) && (x25.2.1 == 1)) && (decide (x25.2.2 > 0))) = t) (fun K => ?_) ?_
 ·
  rcases Bool.eq_false_or_eq_true ((x25.1 == 1) && (x25.2.1 == 1)) with h75 | h75
  ·
   refine WL.setB 62 h75 rfl ?_
   refine sg 12 [] [65] [(65, (bv (decide (x25.2.2 > 0))))] (by kernel_rfl) ?_
   exact WL.toV K (decide (x25.2.2 > 0)) [65] rfl (by first | (rw [h75]; done) | (rw [h75]; rfl))
  refine WL.setB 62 h75 rfl ?_
  refine sg 12 [] [65] [(65, (bv false))] (by kernel_rfl) ?_
  exact WL.toV K false [65] rfl (by first | (rw [h75]; done) | (rw [h75]; rfl))
 rintro b76 rfl
 refine sg 13 [] [4] [(4, (bv (((x25.1 == 1) && (x25.2.1 == 1)) && (decide (x25.2.2 > 0)))))] (by kernel_rfl) ?_
 refine WL.done rfl (WX.next ?_)
 refine WC.ret ?_
 injection hf with hf
 subst hf
 exact WX.ret_ [] (bv (((x25.1 == 1) && (x25.2.1 == 1)) && (decide (x25.2.2 > 0)))) [] (fun fb => by kernel_rfl) trivial ⟨_, rfl, rfl, hS70.keep⟩
theorem weight_Check_4_1_calls (k : Nat) (p0 : Fraction) (f0 : Weights) (ga : Nat) (Aa : Option Addr) (ca : Nat) (Ab : Option Addr) (cb : Nat) (Ac : Option Addr) (cc : Nat) (Ad : Option Addr) (cd : Nat) (Ae : Option Addr) (ce : Nat) (r : Bool) (w : World) (hR0 : RO NoS w (blk ga (.cells #[(sv Aa f0.Values ca), (sv Ab f0.Carries cb), (sv Ac f0.Factors cc), (sv Ad f0.Primes cd), (sv Ae f0.Logs ce)] 26 (0, 0)))) (hR1 : RO NoS w (rowR enc_Frac Aa ca f0.Values)) (hR2 : RO NoS w (rowR enc_Frac Ab cb f0.Carries)) (hR3 : RO NoS w (rowR enc_Frac Ac cc f0.Factors)) (hR4 : RO NoS w (rowR encInt Ad cd f0.Primes)) (hR5 : RO NoS w (rowR encInt Ae ce f0.Logs)) (hf : weight_Check_4_1 k p0 f0 = some r) :
  CallsR Tryz.prog 35 #[(.agg #[(iv p0.Num), (iv p0.Den)]), (pt ga)] w (fun v w' => v = (bv r) ∧ Keeps NoS w w') := by
 have hS : St NoS w w [blk ga (.cells #[(sv Aa f0.Values ca), (sv Ab f0.Carries cb), (sv Ac f0.Factors cc), (sv Ad f0.Primes cd), (sv Ae f0.Logs ce)] 26 (0, 0)), rowR enc_Frac Aa ca f0.Values, rowR enc_Frac Ab cb f0.Carries, rowR enc_Frac Ac cc f0.Factors, rowR encInt Ad cd f0.Primes, rowR encInt Ae ce f0.Logs] [] := St.init (ro_cons hR0 (ro_cons hR1 (ro_cons hR2 (ro_cons hR3 (ro_cons hR4 (ro_cons hR5 (ro_nil _ _)))))))
 refine enter 7 Tryz.func35 rfl Tryz.ntmps35 rfl ?_
 unfold weight_Check_4_1 at hf
 refine WC.seq (WC.region ?_)
 refine WL.new hS 2 [] (fun g => (pt g)) (.cells #[(iv p0.Num), (iv p0.Den)] 63 (0, 0)) [] (fun fb g => by kernel_rfl) trivial (fun g6 w7 hS8 => ?_)
 refine ⟨trivial, ?_⟩
 refine sg 2 [] [1, 2] [(1, (pt ga)), (2, (pt g6))] (by kernel_rfl) ?_
 refine WL.done rfl (WX.next (WC.seq (WC.region ?_)))
 refine seg 2 [.v (iv p0.Num), .v (iv p0.Den), .v (sv Aa f0.Values ca), .v (sv Ab f0.Carries cb), .v (sv Ac f0.Factors cc), .v (sv Ad f0.Primes cd), .v (sv Ae f0.Logs ce)] [4, 5] [(4, (.agg #[(iv p0.Num), (iv p0.Den)])), (5, (.agg #[(sv Aa f0.Values ca), (sv Ab f0.Carries cb), (sv Ac f0.Factors cc), (sv Ad f0.Primes cd), (sv Ae f0.Logs ce)]))] [.cell ⟨g6, 0, none⟩ (iv p0.Num), .cell ⟨g6, 1, none⟩ (iv p0.Den), .cell ⟨ga, 0, none⟩ (sv Aa f0.Values ca), .cell ⟨ga, 1, none⟩ (sv Ab f0.Carries cb), .cell ⟨ga, 2, none⟩ (sv Ac f0.Factors cc), .cell ⟨ga, 3, none⟩ (sv Ad f0.Primes cd), .cell ⟨ga, 4, none⟩ (sv Ae f0.Logs ce)] (fun fb => by kernel_rfl) rfl ⟨hS8.cell 0 rfl 0 rfl, hS8.cell 0 rfl 1 rfl, blk_cell (hS8.rd 0).1 0 rfl, blk_cell (hS8.rd 0).1 1 rfl, blk_cell (hS8.rd 0).1 2 rfl, blk_cell (hS8.rd 0).1 3 rfl, blk_cell (hS8.rd 0).1 4 rfl, trivial⟩ ?_
 obtain ⟨t9, ht10, hf⟩ := bind_some hf
 refine WL.call (some 6) 36 #[(.agg #[(iv p0.Num), (iv p0.Den)]), (.agg #[(sv Aa f0.Values ca), (sv Ab f0.Carries cb), (sv Ac f0.Factors cc), (sv Ad f0.Primes cd), (sv Ae f0.Logs ce)])] (fun fb => by kernel_rfl) (weight_grows_calls _ (Frac.mk p0.Num p0.Den) f0 Aa ca Ab cb Ac cc Ad cd Ae ce t9 _ (hS8.rd 1) (hS8.rd 2) (hS8.rd 3) (hS8.rd 4) (hS8.rd 5) ht10) (fun v w11 hR12 => ?_)
 obtain ⟨rfl, hk_⟩ := hR12
 have hS13 := hS8.keepN hk_
 refine ⟨trivial, ?_⟩
 refine sg 4 [] [3] [(3, (bv t9))] (by kernel_rfl) ?_
 refine WL.done rfl (WX.next ?_)
 refine WC.ret ?_
 injection hf with hf
 subst hf
 exact WX.ret_ [] (bv t9) [] (fun fb => by kernel_rfl) trivial ⟨_, rfl, rfl, hS13.keep⟩
theorem weight_all_1_of_weight_Check_4_1_calls (k : Nat) (p0 : Frac) (f0_0 : Weights) (ga : Nat) (gb : Nat) (Aa : Option Addr) (ca : Nat) (Ab : Option Addr) (cb : Nat) (Ac : Option Addr) (cc : Nat) (Ad : Option Addr) (cd : Nat) (Ae : Option Addr) (ce : Nat) (r : Bool) (w : World) (hR0 : RO NoS w (blk ga (.cells #[(.func (.func 35) #[] #[(pt gb)])] 65 (0, 0)))) (hR1 : RO NoS w (blk gb (.cells #[(sv Aa f0_0.Values ca), (sv Ab f0_0.Carries cb), (sv Ac f0_0.Factors cc), (sv Ad f0_0.Primes cd), (sv Ae f0_0.Logs ce)] 26 (0, 0)))) (hR2 : RO NoS w (rowR enc_Frac Aa ca f0_0.Values)) (hR3 : RO NoS w (rowR enc_Frac Ab cb f0_0.Carries)) (hR4 : RO NoS w (rowR enc_Frac Ac cc f0_0.Factors)) (hR5 : RO NoS w (rowR encInt Ad cd f0_0.Primes)) (hR6 : RO NoS w (rowR encInt Ae ce f0_0.Logs)) (hf : weight_all_1_of_weight_Check_4_1 k p0 f0_0 = some r) :
  CallsR Tryz.prog 68 #[(.agg #[(iv p0.Num), (iv p0.Den)]), (pt ga)] w (fun v w' => v = (bv r) ∧ Keeps NoS w w') := by
 have hS : St NoS w w [blk ga (.cells #[(.func (.func 35) #[] #[(pt gb)])] 65 (0, 0)), blk gb (.cells #[(sv Aa f0_0.Values ca), (sv Ab f0_0.Carries cb), (sv Ac f0_0.Factors cc), (sv Ad f0_0.Primes cd), (sv Ae f0_0.Logs ce)] 26 (0, 0)), rowR enc_Frac Aa ca f0_0.Values, rowR enc_Frac Ab cb f0_0.Carries, rowR enc_Frac Ac cc f0_0.Factors, rowR encInt Ad cd f0_0.Primes, rowR encInt Ae ce f0_0.Logs] [] := St.init (ro_cons hR0 (ro_cons hR1 (ro_cons hR2 (ro_cons hR3 (ro_cons hR4 (ro_cons hR5 (ro_cons hR6 (ro_nil _ _))))))))
 refine enter 8 Tryz.func68 rfl Tryz.ntmps68 rfl ?_
 unfold weight_all_1_of_weight_Check_4_1 at hf
 refine WC.seq (WC.region ?_)
 refine WL.new hS 2 [] (fun g => (pt g)) (.cells #[(iv p0.Num), (iv p0.Den)] 33 (0, 0)) [] (fun fb g => by kernel_rfl) trivial (fun g7 w8 hS9 => ?_)
 refine ⟨trivial, ?_⟩
 refine sg 2 [] [1, 2] [(1, (pt ga)), (2, (pt g7))] (by kernel_rfl) ?_
 refine WL.done rfl (WX.next (WC.seq (WC.region ?_)))
 refine seg 2 [.v (.func (.func 35) #[] #[(pt gb)]), .v (iv p0.Num), .v (iv p0.Den)] [4, 5] [(4, (.func (.func 35) #[] #[(pt gb)])), (5, (.agg #[(iv p0.Num), (iv p0.Den)]))] [.cell ⟨ga, 0, none⟩ (.func (.func 35) #[] #[(pt gb)]), .cell ⟨g7, 0, none⟩ (iv p0.Num), .cell ⟨g7, 1, none⟩ (iv p0.Den)] (fun fb => by kernel_rfl) rfl ⟨blk_cell (hS9.rd 0).1 0 rfl, hS9.cell 0 rfl 0 rfl, hS9.cell 0 rfl 1 rfl, trivial⟩ ?_
 obtain ⟨t10, ht11, hf⟩ := bind_some hf
 refine WL.call (some 6) 35 #[(.agg #[(iv p0.Num), (iv p0.Den)]), (pt gb)] (fun fb => by kernel_rfl) (weight_Check_4_1_calls _ (Fraction.mk p0.Num p0.Den) f0_0 gb Aa ca Ab cb Ac cc Ad cd Ae ce t10 _ (hS9.rd 1) (hS9.rd 2) (hS9.rd 3) (hS9.rd 4) (hS9.rd 5) (hS9.rd 6) ht11) (fun v w12 hR13 => ?_)
 obtain ⟨rfl, hk_⟩ := hR13
 have hS14 := hS9.keepN hk_
 refine ⟨trivial, ?_⟩
 refine sg 5 [] [3] [(3, (bv (!t10)))] (by kernel_rfl) ?_
 refine WL.done rfl (WX.next ?_)
 refine WC.ret ?_
 injection hf with hf
 subst hf
 exact WX.ret_ [] (bv (!t10)) [] (fun fb => by kernel_rfl) trivial ⟨_, rfl, rfl, hS14.keep⟩
theorem slices_IndexFunc_api_Frac_api_Frac_with_weight_all_1_of_weight_Check_4_1_calls (k : Nat) (p0 : List Frac) (p1_0_0 : Weights) (Aa : Option Addr) (ca : Nat) (ga : Nat) (gb : Nat) (Ab : Option Addr) (cb : Nat) (Ac : Option Addr) (cc : Nat) (Ad : Option Addr) (cd : Nat) (Ae : Option Addr) (ce : Nat) (Af : Option Addr) (cf : Nat) (r : Int) (w : World) (hR0 : RO NoS w (rowR enc_Frac Aa ca p0)) (hR1 : RO NoS w (blk ga (.cells #[(.func (.func 35) #[] #[(pt gb)])] 65 (0, 0)))) (hR2 : RO NoS w (blk gb (.cells #[(sv Ab p1_0_0.Values cb), (sv Ac p1_0_0.Carries cc), (sv Ad p1_0_0.Factors cd), (sv Ae p1_0_0.Primes ce), (sv Af p1_0_0.Logs cf)] 26 (0, 0)))) (hR3 : RO NoS w (rowR enc_Frac Ab cb p1_0_0.Values)) (hR4 : RO NoS w (rowR enc_Frac Ac cc p1_0_0.Carries)) (hR5 : RO NoS w (rowR enc_Frac Ad cd p1_0_0.Factors)) (hR6 : RO NoS w (rowR encInt Ae ce p1_0_0.Primes)) (hR7 : RO NoS w (rowR encInt Af cf p1_0_0.Logs)) (hf : slices_IndexFunc_api_Frac_api_Frac_with_weight_all_1_of_weight_Check_4_1 k p0 p1_0_0 = some r) :
  CallsR Tryz.prog 88 #[(sv Aa p0 ca), (.func (.func 68) #[] #[(pt ga)])] w (fun v w' => v = (iv r) ∧ Keeps NoS w w') := by
 have hS : St NoS w w [rowR enc_Frac Aa ca p0, blk ga (.cells #[(.func (.func 35) #[] #[(pt gb)])] 65 (0, 0)), blk gb (.cells #[(sv Ab p1_0_0.Values cb), (sv Ac p1_0_0.Carries cc), (sv Ad p1_0_0.Factors cd), (sv Ae p1_0_0.Primes ce), (sv Af p1_0_0.Logs cf)] 26 (0, 0)), rowR enc_Frac Ab cb p1_0_0.Values, rowR enc_Frac Ac cc p1_0_0.Carries, rowR enc_Frac Ad cd p1_0_0.Factors, rowR encInt Ae ce p1_0_0.Primes, rowR encInt Af cf p1_0_0.Logs] [] := St.init (ro_cons hR0 (ro_cons hR1 (ro_cons hR2 (ro_cons hR3 (ro_cons hR4 (ro_cons hR5 (ro_cons hR6 (ro_cons hR7 (ro_nil _ _)))))))))
 refine enter 19 Tryz.func88 rfl Tryz.ntmps88 rfl ?_
 unfold slices_IndexFunc_api_Frac_api_Frac_with_weight_all_1_of_weight_Check_4_1 at hf
 refine WC.seq (WC.region ?_)
 refine sg 1 [] [0, 1] [(0, (sv Aa p0 ca)), (1, (.func (.func 68) #[] #[(pt ga)]))] (by kernel_rfl) ?_
 refine WL.done rfl (WX.next (WC.seq (WC.seq (WC.region ?_))))
 refine sg 3 [] [0, 1, 7, 8] [(0, (sv Aa p0 ca)), (1, (.func (.func 68) #[] #[(pt ga)])), (7, (iv (p0.length : Int))), (8, (iv 0))] (by kernel_rfl) ?_
 refine WL.done rfl (WX.next ?_)
 obtain ⟨x9, hx10, hf⟩ := bind_some hf
 let e1 : Array Value := #[(sv Ab p1_0_0.Values cb), (sv Ac p1_0_0.Carries cc), (sv Ad p1_0_0.Factors cd), (sv Ae p1_0_0.Primes ce), (sv Af p1_0_0.Logs cf)]
 let e2 : Nat × Value := (7, (iv (p0.length : Int)))
 let e4 : Nat × Value := (0, (sv Aa p0 ca))
 refine WC.cutN (T := Unit) (fun t => []) (fun t w1 => St NoS w w1 [rowR enc_Frac Aa ca p0, blk ga (.cells #[(.func (.func 35) #[] #[(pt gb)])] 65 (0, 0)), blk gb (.cells e1 26 (0, 0)), rowR enc_Frac Ab cb p1_0_0.Values, rowR enc_Frac Ac cc p1_0_0.Carries, rowR enc_Frac Ad cd p1_0_0.Factors, rowR encInt Ae ce p1_0_0.Primes, rowR encInt Af cf p1_0_0.Logs] [] ∧ x9 = .inr t) (fun Kx9 => ?_) ?_
 ·
  refine WC.block ?_
  refine WC.loop (T := Int) (fun t => [e4, (1, (.func (.func 68) #[] #[(pt ga)])), e2, (8, (iv t))]) (fun n t w1 => St NoS w w1 [rowR enc_Frac Aa ca p0, blk ga (.cells #[(.func (.func 35) #[] #[(pt gb)])] 65 (0, 0)), blk gb (.cells e1 26 (0, 0)), rowR enc_Frac Ab cb p1_0_0.Values, rowR enc_Frac Ac cc p1_0_0.Carries, rowR enc_Frac Ad cd p1_0_0.Factors, rowR encInt Ae ce p1_0_0.Primes, rowR encInt Af cf p1_0_0.Logs] [] ∧ slices_IndexFunc_api_Frac_api_Frac_with_weight_all_1_of_weight_Check_4_1.l0 n t p0 p1_0_0 = some x9) k 0 [0, 1, 7, 8] rfl ⟨(hS.subR [0, 1, 2, 3, 4, 5, 6, 7]).sub [] (by decide), hx10⟩ ?_
  rintro k11 x8 w12 ⟨hS13, hl14⟩
  let e3 := rdD p0 x8 z_Frac
  cases k11 with
  | zero => rw [slices_IndexFunc_api_Frac_api_Frac_with_weight_all_1_of_weight_Check_4_1.l0] at hl14; cases hl14
  | succ k11 =>
   rw [slices_IndexFunc_api_Frac_api_Frac_with_weight_all_1_of_weight_Check_4_1.l0] at hl14
   refine WC.seq (WC.region ?_)
   refine sg 1 [] [0, 1, 7, 8, 9] [e4, (1, (.func (.func 68) #[] #[(pt ga)])), e2, (8, (iv x8)), (9, (bv (decide (x8 < (p0.length : Int)))))] (by kernel_rfl) ?_
   refine WL.done rfl (WX.next (WC.seq ?_))
   rcases br_some hl14 with ⟨h15, hl14⟩ | ⟨h15, hl14⟩
   ·refine WC.condT2 (fun fb => by kernel_rfl) h15 ?_
    refine WC.skip (WX.next (WC.seq (WC.block (WC.seq (WC.region ?_)))))
    refine sg 2 [] [0, 1, 5, 7, 8] [e4, (1, (.func (.func 68) #[] #[(pt ga)])), (5, (iv x8)), e2, (8, (iv x8))] (by kernel_rfl) ?_
    refine WL.done rfl (WX.next (WC.seq (WC.region ?_)))
    refine sg 3 [] [0, 1, 5, 7, 8, 11, 12, 13] [e4, (1, (.func (.func 68) #[] #[(pt ga)])), (5, (iv x8)), e2, (8, (iv x8)), (11, (.func (.func 68) #[] #[(pt ga)])), (12, (sv Aa p0 ca)), (13, (iv x8))] (by kernel_rfl) ?_
    obtain ⟨h16, hl14⟩ := as_some hl14
    refine seg 5 [.v (iv (e3.Num)), .v (iv (e3.Den))] [0, 1, 5, 7, 8, 11, 15] [e4, (1, (.func (.func 68) #[] #[(pt ga)])), (5, (iv x8)), e2, (8, (iv x8)), (11, (.func (.func 68) #[] #[(pt ga)])), (15, (.agg #[(iv (e3.Num)), (iv (e3.Den))]))] [.idx Aa x8 p0.length, .cell ((adr Aa).add ((x8).toNat * 2)) (iv (e3.Num)), .cell (((adr Aa).add ((x8).toNat * 2)).add 1) (iv (e3.Den))] (fun fb => by kernel_rfl) rfl ⟨rowR.adr (hS13.rd 0).1 h16.1 h16.2, rowR.cell (hS13.rd 0).1 z_Frac h16.1 h16.2 0 rfl, rowR.cell (hS13.rd 0).1 z_Frac h16.1 h16.2 1 rfl, trivial⟩ ?_
    obtain ⟨t17, ht18, hl14⟩ := bind_some hl14
    refine WL.call (some 16) 68 #[(.agg #[(iv (e3.Num)), (iv (e3.Den))]), (pt ga)] (fun fb => by kernel_rfl) (weight_all_1_of_weight_Check_4_1_calls _ e3 p1_0_0 ga gb Ab cb Ac cc Ad cd Ae ce Af cf t17 _ (hS13.rd 1) (hS13.rd 2) (hS13.rd 3) (hS13.rd 4) (hS13.rd 5) (hS13.rd 6) (hS13.rd 7) ht18) (fun v w19 hR20 => ?_)
    obtain ⟨rfl, hk_⟩ := hR20
    have hS21 := hS13.keepN hk_
    refine ⟨trivial, ?_⟩
    refine WL.done rfl (WX.next ?_)
    rcases br_some hl14 with ⟨h22, hl14⟩ | ⟨h22, hl14⟩
    ·refine WC.condT2 (fun fb => by kernel_rfl) h22 ?_
     refine WC.seq (WC.region ?_)
     refine sg 2 [] [4] [(4, (iv x8))] (by kernel_rfl) ?_
     refine WL.done rfl (WX.next ?_)
     refine WC.ret ?_
     injection hl14 with hl14
     subst hl14
     injection hf with hf
     subst hf
     exact WX.blockR (WX.thenR (WX.thenR (WX.blockR (WX.thenR (WX.ret_ [] (iv x8) [] (fun fb => by kernel_rfl) trivial ⟨_, rfl, rfl, hS21.keep⟩)))))
    refine WC.condF2 (fun fb => by kernel_rfl) h22 ?_
    refine WC.skip ?_
    refine WX.blockN (WX.next ?_)
    refine WC.region ?_
    refine sg 2 [] [0, 1, 7, 8] [e4, (1, (.func (.func 68) #[] #[(pt ga)])), e2, (8, (iv (w64 (x8 + 1))))] (by kernel_rfl) ?_
    refine WL.done rfl ?_
    exact WX.again k11 (Nat.lt_succ_self _) (w64 (x8 + 1)) [0, 1, 7, 8] rfl ⟨(hS21.subR [0, 1, 2, 3, 4, 5, 6, 7]).sub [] (by decide), hl14⟩
   refine WC.condF2 (fun fb => by kernel_rfl) h15 ?_
   refine WC.exit ?_
   injection hl14 with hl14
   exact WX.thenX (WX.thenX (WX.blockHere (WX.to Kx9 () [] rfl ⟨(hS13.subR [0, 1, 2, 3, 4, 5, 6, 7]).sub [] (by decide), hl14.symm⟩)))
 rintro y26 w23 ⟨hS24, hq25⟩
 subst hq25
 have hf := sum_inr hf
 refine WX.next (WC.seq (WC.region ?_))
 refine sg 1 [] [4] [(4, (iv (-1)))] (by kernel_rfl) ?_
 refine WL.done rfl (WX.next ?_)
 refine WC.ret ?_
 injection hf with hf
 subst hf
 exact WX.ret_ [] (iv (-1)) [] (fun fb => by kernel_rfl) trivial ⟨_, rfl, rfl, hS24.keep⟩
theorem slices_ContainsFunc_api_Frac_api_Frac_with_weight_all_1_of_weight_Check_4_1_calls (k : Nat) (p0 : List Frac) (p1_0_0 : Weights) (Aa : Option Addr) (ca : Nat) (ga : Nat) (gb : Nat) (Ab : Option Addr) (cb : Nat) (Ac : Option Addr) (cc : Nat) (Ad : Option Addr) (cd : Nat) (Ae : Option Addr) (ce : Nat) (Af : Option Addr) (cf : Nat) (r : Bool) (w : World) (hR0 : RO NoS w (rowR enc_Frac Aa ca p0)) (hR1 : RO NoS w (blk ga (.cells #[(.func (.func 35) #[] #[(pt gb)])] 65 (0, 0)))) (hR2 : RO NoS w (blk gb (.cells #[(sv Ab p1_0_0.Values cb), (sv Ac p1_0_0.Carries cc), (sv Ad p1_0_0.Factors cd), (sv Ae p1_0_0.Primes ce), (sv Af p1_0_0.Logs cf)] 26 (0, 0)))) (hR3 : RO NoS w (rowR enc_Frac Ab cb p1_0_0.Values)) (hR4 : RO NoS w (rowR enc_Frac Ac cc p1_0_0.Carries)) (hR5 : RO NoS w (rowR enc_Frac Ad cd p1_0_0.Factors)) (hR6 : RO NoS w (rowR encInt Ae ce p1_0_0.Primes)) (hR7 : RO NoS w (rowR encInt Af cf p1_0_0.Logs)) (hf : slices_ContainsFunc_api_Frac_api_Frac_with_weight_all_1_of_weight_Check_4_1 k p0 p1_0_0 = some r) :
  CallsR Tryz.prog 67 #[(sv Aa p0 ca), (.func (.func 68) #[] #[(pt ga)])] w (fun v w' => v = (bv r) ∧ Keeps NoS w w') := by
 have hS : St NoS w w [rowR enc_Frac Aa ca p0, blk ga (.cells #[(.func (.func 35) #[] #[(pt gb)])] 65 (0, 0)), blk gb (.cells #[(sv Ab p1_0_0.Values cb), (sv Ac p1_0_0.Carries cc), (sv Ad p1_0_0.Factors cd), (sv Ae p1_0_0.Primes ce), (sv Af p1_0_0.Logs cf)] 26 (0, 0)), rowR enc_Frac Ab cb p1_0_0.Values, rowR enc_Frac Ac cc p1_0_0.Carries, rowR enc_Frac Ad cd p1_0_0.Factors, rowR encInt Ae ce p1_0_0.Primes, rowR encInt Af cf p1_0_0.Logs] [] := St.init (ro_cons hR0 (ro_cons hR1 (ro_cons hR2 (ro_cons hR3 (ro_cons hR4 (ro_cons hR5 (ro_cons hR6 (ro_cons hR7 (ro_nil _ _)))))))))
 refine enter 9 Tryz.func67 rfl Tryz.ntmps67 rfl ?_
 unfold slices_ContainsFunc_api_Frac_api_Frac_with_weight_all_1_of_weight_Check_4_1 at hf
 refine WC.seq (WC.region ?_)
 refine sg 1 [] [0, 1] [(0, (sv Aa p0 ca)), (1, (.func (.func 68) #[] #[(pt ga)]))] (by kernel_rfl) ?_
 refine WL.done rfl (WX.next (WC.seq (WC.region ?_)))
 refine sg 2 [] [5, 6] [(5, (sv Aa p0 ca)), (6, (.func (.func 68) #[] #[(pt ga)]))] (by kernel_rfl) ?_
 obtain ⟨t8, ht9, hf⟩ := bind_some hf
 refine WL.call (some 7) 88 #[(sv Aa p0 ca), (.func (.func 68) #[] #[(pt ga)])] (fun fb => by kernel_rfl) (slices_IndexFunc_api_Frac_api_Frac_with_weight_all_1_of_weight_Check_4_1_calls _ p0 p1_0_0 Aa ca ga gb Ab cb Ac cc Ad cd Ae ce Af cf t8 _ (hS.rd 0) (hS.rd 1) (hS.rd 2) (hS.rd 3) (hS.rd 4) (hS.rd 5) (hS.rd 6) (hS.rd 7) ht9) (fun v w10 hR11 => ?_)
 obtain ⟨rfl, hk_⟩ := hR11
 have hS12 := hS.keepN hk_
 refine ⟨trivial, ?_⟩
 refine sg 5 [] [4] [(4, (bv (decide (t8 ≥ 0))))] (by kernel_rfl) ?_
 refine WL.done rfl (WX.next ?_)
 refine WC.ret ?_
 injection hf with hf
 subst hf
 exact WX.ret_ [] (bv (decide (t8 ≥ 0))) [] (fun fb => by kernel_rfl) trivial ⟨_, rfl, rfl, hS12.keep⟩
theorem weight_all_with_weight_Check_4_1_calls (k : Nat) (p0 : List Frac) (p1_0 : Weights) (Aa : Option Addr) (ca : Nat) (ga : Nat) (Ab : Option Addr) (cb : Nat) (Ac : Option Addr) (cc : Nat) (Ad : Option Addr) (cd : Nat) (Ae : Option Addr) (ce : Nat) (Af : Option Addr) (cf : Nat) (r : Bool) (w : World) (hR0 : RO NoS w (rowR enc_Frac Aa ca p0)) (hR1 : RO NoS w (blk ga (.cells #[(sv Ab p1_0.Values cb), (sv Ac p1_0.Carries cc), (sv Ad p1_0.Factors cd), (sv Ae p1_0.Primes ce), (sv Af p1_0.Logs cf)] 26 (0, 0)))) (hR2 : RO NoS w (rowR enc_Frac Ab cb p1_0.Values)) (hR3 : RO NoS w (rowR enc_Frac Ac cc p1_0.Carries)) (hR4 : RO NoS w (rowR enc_Frac Ad cd p1_0.Factors)) (hR5 : RO NoS w (rowR encInt Ae ce p1_0.Primes)) (hR6 : RO NoS w (rowR encInt Af cf p1_0.Logs)) (hf : weight_all_with_weight_Check_4_1 k p0 p1_0 = some r) :
  CallsR Tryz.prog 34 #[(sv Aa p0 ca), (.func (.func 35) #[] #[(pt ga)])] w (fun v w' => v = (bv r) ∧ Keeps NoS w w') := by
 have hS : St NoS w w [rowR enc_Frac Aa ca p0, blk ga (.cells #[(sv Ab p1_0.Values cb), (sv Ac p1_0.Carries cc), (sv Ad p1_0.Factors cd), (sv Ae p1_0.Primes ce), (sv Af p1_0.Logs cf)] 26 (0, 0)), rowR enc_Frac Ab cb p1_0.Values, rowR enc_Frac Ac cc p1_0.Carries, rowR enc_Frac Ad cd p1_0.Factors, rowR encInt Ae ce p1_0.Primes, rowR encInt Af cf p1_0.Logs] [] := St.init (ro_cons hR0 (ro_cons hR1 (ro_cons hR2 (ro_cons hR3 (ro_cons hR4 (ro_cons hR5 (ro_cons hR6 (ro_nil _ _))))))))
 refine enter 9 Tryz.func34 rfl Tryz.ntmps34 rfl ?_
 unfold weight_all_with_weight_Check_4_1 at hf
 refine WC.seq (WC.region ?_)
 refine WL.new hS 3 [] (fun g => (pt g)) (.cells #[(.func (.func 35) #[] #[(pt ga)])] 65 (0, 0)) [] (fun fb g => by kernel_rfl) trivial (fun g7 w8 hS9 => ?_)
 refine ⟨trivial, ?_⟩
 refine sg 2 [] [0, 3] [(0, (sv Aa p0 ca)), (3, (pt g7))] (by kernel_rfl) ?_
 refine WL.done rfl (WX.next (WC.seq (WC.region ?_)))
 refine sg 2 [] [5, 6] [(5, (sv Aa p0 ca)), (6, (.func (.func 68) #[] #[(pt g7)]))] (by kernel_rfl) ?_
 obtain ⟨t10, ht11, hf⟩ := bind_some hf
 refine WL.call (some 7) 67 #[(sv Aa p0 ca), (.func (.func 68) #[] #[(pt g7)])] (fun fb => by kernel_rfl) (slices_ContainsFunc_api_Frac_api_Frac_with_weight_all_1_of_weight_Check_4_1_calls _ p0 p1_0 Aa ca g7 ga Ab cb Ac cc Ad cd Ae ce Af cf t10 _ (hS9.rd 0) (hS9.ow 0) (hS9.rd 1) (hS9.rd 2) (hS9.rd 3) (hS9.rd 4) (hS9.rd 5) (hS9.rd 6) ht11) (fun v w12 hR13 => ?_)
 obtain ⟨rfl, hk_⟩ := hR13
 have hS14 := hS9.keepN hk_
 refine ⟨trivial, ?_⟩
 refine sg 5 [] [4] [(4, (bv (!t10)))] (by kernel_rfl) ?_
 refine WL.done rfl (WX.next ?_)
 refine WC.ret ?_
 injection hf with hf
 subst hf
 exact WX.ret_ [] (bv (!t10)) [] (fun fb => by kernel_rfl) trivial ⟨_, rfl, rfl, hS14.keep⟩
theorem weight_Check_4_calls (k : Nat) (f0 : Weights) (ga : Nat) (Aa : Option Addr) (ca : Nat) (Ab : Option Addr) (cb : Nat) (Ac : Option Addr) (cc : Nat) (Ad : Option Addr) (cd : Nat) (Ae : Option Addr) (ce : Nat) (r : Bool) (w : World) (hR0 : RO NoS w (blk ga (.cells #[(sv Aa f0.Values ca), (sv Ab f0.Carries cb), (sv Ac f0.Factors cc), (sv Ad f0.Primes cd), (sv Ae f0.Logs ce)] 26 (0, 0)))) (hR1 : RO NoS w (rowR enc_Frac Aa ca f0.Values)) (hR2 : RO NoS w (rowR enc_Frac Ab cb f0.Carries)) (hR3 : RO NoS w (rowR enc_Frac Ac cc f0.Factors)) (hR4 : RO NoS w (rowR encInt Ad cd f0.Primes)) (hR5 : RO NoS w (rowR encInt Ae ce f0.Logs)) (hf : weight_Check_4 k f0 = some r) :
  CallsR Tryz.prog 33 #[(pt ga)] w (fun v w' => v = (bv r) ∧ Keeps NoS w w') := by
 have hS : St NoS w w [blk ga (.cells #[(sv Aa f0.Values ca), (sv Ab f0.Carries cb), (sv Ac f0.Factors cc), (sv Ad f0.Primes cd), (sv Ae f0.Logs ce)] 26 (0, 0)), rowR enc_Frac Aa ca f0.Values, rowR enc_Frac Ab cb f0.Carries, rowR enc_Frac Ac cc f0.Factors, rowR encInt Ad cd f0.Primes, rowR encInt Ae ce f0.Logs] [] := St.init (ro_cons hR0 (ro_cons hR1 (ro_cons hR2 (ro_cons hR3 (ro_cons hR4 (ro_cons hR5 (ro_nil _ _)))))))
 refine enter 6 Tryz.func33 rfl Tryz.ntmps33 rfl ?_
 unfold weight_Check_4 at hf
 refine WC.seq (WC.region ?_)
 refine sg 1 [] [0] [(0, (pt ga))] (by kernel_rfl) ?_
 refine WL.done rfl (WX.next (WC.seq (WC.region ?_)))
 refine seg 3 [.v (sv Ac f0.Factors cc)] [3, 4] [(3, (sv Ac f0.Factors cc)), (4, (.func (.func 35) #[] #[(pt ga)]))] [.cell ⟨ga, 2, none⟩ (sv Ac f0.Factors cc)] (fun fb => by kernel_rfl) rfl ⟨blk_cell (hS.rd 0).1 2 rfl, trivial⟩ ?_
 obtain ⟨t6, ht7, hf⟩ := bind_some hf
 refine WL.call (some 5) 34 #[(sv Ac f0.Factors cc), (.func (.func 35) #[] #[(pt ga)])] (fun fb => by kernel_rfl) (weight_all_with_weight_Check_4_1_calls _ f0.Factors f0 Ac cc ga Aa ca Ab cb Ac cc Ad cd Ae ce t6 _ (hS.rd 3) (hS.rd 0) (hS.rd 1) (hS.rd 2) (hS.rd 3) (hS.rd 4) (hS.rd 5) ht7) (fun v w8 hR9 => ?_)
 obtain ⟨rfl, hk_⟩ := hR9
 have hS10 := hS.keepN hk_
 refine ⟨trivial, ?_⟩
 refine sg 5 [] [1] [(1, (bv t6))] (by kernel_rfl) ?_
 refine WL.done rfl (WX.next ?_)
 refine WC.ret ?_
 injection hf with hf
 subst hf
 exact WX.ret_ [] (bv t6) [] (fun fb => by kernel_rfl) trivial ⟨_, rfl, rfl, hS10.keep⟩
theorem weight_Check_calls (k : Nat) (p0 : List Tile) (p1 : Weights) (Aa : Option Addr) (ca : Nat) (Ab : Option Addr) (cb : Nat) (Ac : Option Addr) (cc : Nat) (Ad : Option Addr) (cd : Nat) (Ae : Option Addr) (ce : Nat) (Af : Option Addr) (cf : Nat) (r : Bool × Int) (w : World) (hR0 : RO NoS w (rowR enc_Tile Aa ca p0)) (hR1 : RO NoS w (rowR enc_Frac Ab cb p1.Values)) (hR2 : RO NoS w (rowR enc_Frac Ac cc p1.Carries)) (hR3 : RO NoS w (rowR enc_Frac Ad cd p1.Factors)) (hR4 : RO NoS w (rowR encInt Ae ce p1.Primes)) (hR5 : RO NoS w (rowR encInt Af cf p1.Logs)) (hR6 : RO NoS w (tabO 0 md0)) (hf : weight_Check k p0 p1 = some r) :
  CallsR Tryz.prog 11 #[(sv Aa p0 ca), (.agg #[(sv Ab p1.Values cb), (sv Ac p1.Carries cc), (sv Ad p1.Factors cd), (sv Ae p1.Primes ce), (sv Af p1.Logs cf)])] w (fun v w' => v = (.tuple #[(bv r.1), (iv r.2)]) ∧ Keeps NoS w w') := by
 have hS : St NoS w w [rowR enc_Tile Aa ca p0, rowR enc_Frac Ab cb p1.Values, rowR enc_Frac Ac cc p1.Carries, rowR enc_Frac Ad cd p1.Factors, rowR encInt Ae ce p1.Primes, rowR encInt Af cf p1.Logs, tabO 0 md0] [] := St.init (ro_cons hR0 (ro_cons hR1 (ro_cons hR2 (ro_cons hR3 (ro_cons hR4 (ro_cons hR5 (ro_cons hR6 (ro_nil _ _))))))))
 refine enter 28 Tryz.func11 rfl Tryz.ntmps11 rfl ?_
 unfold weight_Check at hf
 refine WC.seq (WC.region ?_)
 refine WL.new hS 2 [] (fun g => (pt g)) (.cells #[(sv Aa p0 ca)] 22 (0, 0)) [] (fun fb g => by kernel_rfl) trivial (fun g7 w8 hS9 => ?_)
 refine ⟨trivial, ?_⟩
 refine WL.new hS9 3 [] (fun g => (pt g)) (.cells #[(sv Ab p1.Values cb), (sv Ac p1.Carries cc), (sv Ad p1.Factors cd), (sv Ae p1.Primes ce), (sv Af p1.Logs cf)] 26 (0, 0)) [] (fun fb g => by kernel_rfl) trivial (fun g10 w12 hS13 => ?_)
 refine ⟨trivial, ?_⟩
 refine sg 4 [] [2, 3] [(2, (pt g7)), (3, (pt g10))] (by kernel_rfl) ?_
 refine WL.done rfl (WX.next (WC.seq (WC.seq (WC.region ?_))))
 refine seg 2 [.v (sv Aa p0 ca), .v (sv Ab p1.Values cb), .v (sv Ac p1.Carries cc), .v (sv Ad p1.Factors cd), .v (sv Ae p1.Primes ce), .v (sv Af p1.Logs cf)] [2, 3, 9, 10] [(2, (pt g7)), (3, (pt g10)), (9, (sv Aa p0 ca)), (10, (.agg #[(sv Ab p1.Values cb), (sv Ac p1.Carries cc), (sv Ad p1.Factors cd), (sv Ae p1.Primes ce), (sv Af p1.Logs cf)]))] [.cell ⟨g7, 0, none⟩ (sv Aa p0 ca), .cell ⟨g10, 0, none⟩ (sv Ab p1.Values cb), .cell ⟨g10, 1, none⟩ (sv Ac p1.Carries cc), .cell ⟨g10, 2, none⟩ (sv Ad p1.Factors cd), .cell ⟨g10, 3, none⟩ (sv Ae p1.Primes ce), .cell ⟨g10, 4, none⟩ (sv Af p1.Logs cf)] (fun fb => by kernel_rfl) rfl ⟨hS13.cell 1 rfl 0 rfl, hS13.cell 0 rfl 0 rfl, hS13.cell 0 rfl 1 rfl, hS13.cell 0 rfl 2 rfl, hS13.cell 0 rfl 3 rfl, hS13.cell 0 rfl 4 rfl, trivial⟩ ?_
 obtain ⟨t14, ht15, hf⟩ := bind_some hf
 refine WL.call (some 11) 12 #[(sv Aa p0 ca), (.agg #[(sv Ab p1.Values cb), (sv Ac p1.Carries cc), (sv Ad p1.Factors cd), (sv Ae p1.Primes ce), (sv Af p1.Logs cf)])] (fun fb => by kernel_rfl) (weight_Valid_calls _ p0 p1 Aa ca Ab cb Ac cc Ad cd Ae ce Af cf t14 _ (hS13.rd 0) (hS13.rd 1) (hS13.rd 2) (hS13.rd 3) (hS13.rd 4) (hS13.rd 5) ht15) (fun v w16 hR17 => ?_)
 obtain ⟨rfl, hk_⟩ := hR17
 have hS18 := hS13.keepN hk_
 refine ⟨trivial, ?_⟩
 refine sg 4 [] [2, 3, 12] [(2, (pt g7)), (3, (pt g10)), (12, (bv (!t14)))] (by kernel_rfl) ?_
 refine WL.done rfl (WX.next ?_)
 rcases br_some hf with ⟨h19, hf⟩ | ⟨h19, hf⟩
 ·refine WC.condT2 (fun fb => by kernel_rfl) h19 ?_
  refine WC.seq (WC.region ?_)
  refine sg 2 [] [4, 5] [(4, (bv false)), (5, (iv 1))] (by kernel_rfl) ?_
  refine WL.done rfl (WX.next ?_)
  refine WC.ret ?_
  injection hf with hf
  subst hf
  exact WX.thenR (WX.ret_ [] (.tuple #[(bv false), (iv 1)]) [] (fun fb => by kernel_rfl) trivial ⟨_, rfl, rfl, hS18.keep⟩)
 refine WC.condF2 (fun fb => by kernel_rfl) h19 ?_
 refine WC.skip (WX.next (WC.seq (WC.region ?_)))
 refine sg 4 [] [13, 14, 15, 16] [(13, (.func (.func 27) #[] #[(pt g7), (pt g10)])), (14, (.func (.func 29) #[] #[(pt g7), (pt g10)])), (15, (.func (.func 31) #[] #[(pt g7), (pt g10)])), (16, (.func (.func 33) #[] #[(pt g10)]))] (by kernel_rfl) ?_
 refine WL.new hS18 17 [] (fun g => (.slice (some ⟨g, 0, none⟩) 4 4)) (.cells #[(.func (.func 27) #[] #[(pt g7), (pt g10)]), (.func (.func 29) #[] #[(pt g7), (pt g10)]), (.func (.func 31) #[] #[(pt g7), (pt g10)]), (.func (.func 33) #[] #[(pt g10)])] 28 (0, 0)) [] (fun fb g => by kernel_rfl) trivial (fun g20 w21 hS22 => ?_)
 refine ⟨trivial, ?_⟩
 refine sg 6 [] [6] [(6, (.slice (some ⟨g20, 0, none⟩) 4 4))] (by kernel_rfl) ?_
 refine WL.done rfl (WX.next (WC.seq (WC.seq (WC.region ?_))))
 refine sg 3 [] [18, 19, 20] [(18, (.slice (some ⟨g20, 0, none⟩) 4 4)), (19, (iv 4)), (20, (iv 0))] (by kernel_rfl) ?_
 refine WL.done rfl (WX.next ?_)
 obtain ⟨x24, hx25, hf⟩ := bind_some hf
 let e1 : Array Value := #[(pt g7), (pt g10)]
 let e2 : Nat × Value := (19, (iv 4))
 let e3 : List Own := [rowR enc_Tile Aa ca p0, rowR enc_Frac Ab cb p1.Values, rowR enc_Frac Ac cc p1.Carries, rowR enc_Frac Ad cd p1.Factors, rowR encInt Ae ce p1.Primes, rowR encInt Af cf p1.Logs, tabO 0 md0]
 let e5 : List Nat := [0, 1, 2, 3, 4, 5, 6]
 let e7 : List (Nat × Value) := [(4, (bv false)), (5, (iv 0))]
 let e8 : List Nat := [18, 19, 20]
 let e9 : Array Value := #[(bv false), (iv 0)]
 refine WC.cutN (T := Unit) (fun t => []) (fun t w1 => St NoS w w1 e3 [] ∧ x24 = .inr t) (fun Kx24 => ?_) ?_
 ·
  refine WC.block ?_
  refine WC.loop (T := Int) (fun t => [(18, (.slice (some ⟨g20, 0, none⟩) 4 4)), e2, (20, (iv t))]) (fun n t w1 => St NoS w w1 e3 [blk g20 (.cells #[(.func (.func 27) #[] e1), (.func (.func 29) #[] e1), (.func (.func 31) #[] e1), (.func (.func 33) #[] #[(pt g10)])] 28 (0, 0)), blk g7 (.cells #[(sv Aa p0 ca)] 22 (0, 0)), blk g10 (.cells #[(sv Ab p1.Values cb), (sv Ac p1.Carries cc), (sv Ad p1.Factors cd), (sv Ae p1.Primes ce), (sv Af p1.Logs cf)] 26 (0, 0))] ∧ weight_Check.l0 n t p0 p1 = some x24) k 0 e8 rfl ⟨(hS22.subR e5).sub [0, 2, 1] (by decide), hx25⟩ ?_
  rintro k26 x23 w27 ⟨hS28, hl29⟩
  let e4 : Nat × Value := (20, (iv x23))
  let e6 := w64 (x23 + 1)
  cases k26 with
  | zero => rw [weight_Check.l0] at hl29; cases hl29
  | succ k26 =>
   rw [weight_Check.l0] at hl29
   refine WC.seq (WC.region ?_)
   refine sg 1 [] [18, 19, 20, 21] [(18, (.slice (some ⟨g20, 0, none⟩) 4 4)), e2, e4, (21, (bv (decide (x23 < 4))))] (by kernel_rfl) ?_
   refine WL.done rfl (WX.next (WC.seq ?_))
   rcases br_some hl29 with ⟨h30, hl29⟩ | ⟨h30, hl29⟩
   ·refine WC.condT2 (fun fb => by kernel_rfl) h30 ?_
    refine WC.skip (WX.next (WC.seq (WC.block (WC.seq (WC.region ?_)))))
    rcases br_some hl29 with ⟨h31, hl29⟩ | ⟨h31, hl29⟩
    ·
     refine WL.setI 20 (eq_of_beq h31) rfl ?_
     refine seg 1 [] [18, 19, 20, 22] [(18, (.slice (some ⟨g20, 0, none⟩) 4 4)), e2, (20, (iv 0)), (22, (pt g20))] [.idx (some ⟨g20, 0, none⟩) 0 4] (fun fb => by kernel_rfl) rfl ⟨⟨by decide, by decide, rfl⟩, trivial⟩ ?_
     refine WL.setI 20 (eq_of_beq h31).symm rfl ?_
     refine seg 3 [.v (.func (.func 27) #[] e1)] [8, 18, 19, 20] [(8, (.func (.func 27) #[] e1)), (18, (.slice (some ⟨g20, 0, none⟩) 4 4)), e2, e4] [.cell ⟨g20, 0, none⟩ (.func (.func 27) #[] e1)] (fun fb => by kernel_rfl) rfl ⟨hS28.cell 0 rfl 0 rfl, trivial⟩ ?_
     refine WL.done rfl (WX.next (WC.seq (WC.region ?_)))
     refine sg 1 [] [18, 19, 20, 24] [(18, (.slice (some ⟨g20, 0, none⟩) 4 4)), e2, e4, (24, (.func (.func 27) #[] e1))] (by kernel_rfl) ?_
     obtain ⟨t32, ht33, hl29⟩ := bind_some hl29
     refine WL.call (some 25) 27 e1 (fun fb => by kernel_rfl) (weight_Check_1_calls _ p0 p1 g7 Aa ca g10 Ab cb Ac cc Ad cd Ae ce Af cf t32 _ (hS28.ow 1) (hS28.rd 0) (hS28.ow 2) (hS28.rd 1) (hS28.rd 2) (hS28.rd 3) (hS28.rd 4) (hS28.rd 5) (hS28.rd 6) ht33) (fun v w34 hR35 => ?_)
     obtain ⟨rfl, hk_⟩ := hR35
     have hS36 := hS28.keepN hk_
     refine ⟨trivial, ?_⟩
     refine sg 3 [] [18, 19, 20, 26] [(18, (.slice (some ⟨g20, 0, none⟩) 4 4)), e2, e4, (26, (bv (!t32)))] (by kernel_rfl) ?_
     refine WL.done rfl (WX.next ?_)
     rcases br_some hl29 with ⟨h37, hl29⟩ | ⟨h37, hl29⟩
     ·refine WC.condT2 (fun fb => by kernel_rfl) h37 ?_
      refine WC.seq (WC.region ?_)
      refine sg 2 [] [4, 5] e7 (by kernel_rfl) ?_
      refine WL.done rfl (WX.next ?_)
      refine WC.ret ?_
      injection hl29 with hl29
      subst hl29
      injection hf with hf
      subst hf
      exact WX.blockR (WX.thenR (WX.thenR (WX.blockR (WX.thenR (WX.ret_ [] (.tuple e9) [] (fun fb => by kernel_rfl) trivial ⟨_, rfl, rfl, hS36.keep⟩)))))
     refine WC.condF2 (fun fb => by kernel_rfl) h37 ?_
     refine WC.skip ?_
     refine WX.blockN (WX.next ?_)
     refine WC.region ?_
     refine sg 2 [] e8 [(18, (.slice (some ⟨g20, 0, none⟩) 4 4)), e2, (20, (iv e6))] (by kernel_rfl) ?_
     refine WL.done rfl ?_
     exact WX.again k26 (Nat.lt_succ_self _) e6 e8 rfl ⟨(hS36.subR e5).sub [0, 1, 2] (by decide), hl29⟩
    rcases br_some hl29 with ⟨h38, hl29⟩ | ⟨h38, hl29⟩
    ·
     refine WL.setI 20 (eq_of_beq h38) rfl ?_
     refine seg 1 [] [18, 19, 20, 22] [(18, (.slice (some ⟨g20, 0, none⟩) 4 4)), e2, (20, (iv 1)), (22, (.pointer (some ⟨g20, 1, none⟩)))] [.idx (some ⟨g20, 0, none⟩) 1 4] (fun fb => by kernel_rfl) rfl ⟨⟨by decide, by decide, rfl⟩, trivial⟩ ?_
     refine WL.setI 20 (eq_of_beq h38).symm rfl ?_
     refine seg 3 [.v (.func (.func 29) #[] e1)] [8, 18, 19, 20] [(8, (.func (.func 29) #[] e1)), (18, (.slice (some ⟨g20, 0, none⟩) 4 4)), e2, e4] [.cell ⟨g20, 1, none⟩ (.func (.func 29) #[] e1)] (fun fb => by kernel_rfl) rfl ⟨hS28.cell 0 rfl 1 rfl, trivial⟩ ?_
     refine WL.done rfl (WX.next (WC.seq (WC.region ?_)))
     refine sg 1 [] [18, 19, 20, 24] [(18, (.slice (some ⟨g20, 0, none⟩) 4 4)), e2, e4, (24, (.func (.func 29) #[] e1))] (by kernel_rfl) ?_
     obtain ⟨t39, ht40, hl29⟩ := bind_some hl29
     refine WL.call (some 25) 29 e1 (fun fb => by kernel_rfl) (weight_Check_2_calls _ p0 p1 g7 Aa ca g10 Ab cb Ac cc Ad cd Ae ce Af cf t39 _ (hS28.ow 1) (hS28.rd 0) (hS28.ow 2) (hS28.rd 1) (hS28.rd 2) (hS28.rd 3) (hS28.rd 4) (hS28.rd 5) ht40) (fun v w41 hR42 => ?_)
     obtain ⟨rfl, hk_⟩ := hR42
     have hS43 := hS28.keepN hk_
     refine ⟨trivial, ?_⟩
     refine sg 3 [] [18, 19, 20, 26] [(18, (.slice (some ⟨g20, 0, none⟩) 4 4)), e2, e4, (26, (bv (!t39)))] (by kernel_rfl) ?_
     refine WL.done rfl (WX.next ?_)
     rcases br_some hl29 with ⟨h44, hl29⟩ | ⟨h44, hl29⟩
     ·refine WC.condT2 (fun fb => by kernel_rfl) h44 ?_
      refine WC.seq (WC.region ?_)
      refine sg 2 [] [4, 5] e7 (by kernel_rfl) ?_
      refine WL.done rfl (WX.next ?_)
      refine WC.ret ?_
      injection hl29 with hl29
      subst hl29
      injection hf with hf
      subst hf
      exact WX.blockR (WX.thenR (WX.thenR (WX.blockR (WX.thenR (WX.ret_ [] (.tuple e9) [] (fun fb => by kernel_rfl) trivial ⟨_, rfl, rfl, hS43.keep⟩)))))
     refine WC.condF2 (fun fb => by kernel_rfl) h44 ?_
     refine WC.skip ?_
     refine WX.blockN (WX.next ?_)
     refine WC.region ?_
     refine sg 2 [] e8 [(18, (.slice (some ⟨g20, 0, none⟩) 4 4)), e2, (20, (iv e6))] (by kernel_rfl) ?_
     refine WL.done rfl ?_
     exact WX.again k26 (Nat.lt_succ_self _) e6 e8 rfl ⟨(hS43.subR e5).sub [0, 1, 2] (by decide), hl29⟩
    rcases br_some hl29 with ⟨h45, hl29⟩ | ⟨h45, hl29⟩
    ·
     refine WL.setI 20 (eq_of_beq h45) rfl ?_
     refine seg 1 [] [18, 19, 20, 22] [(18, (.slice (some ⟨g20, 0, none⟩) 4 4)), e2, (20, (iv 2)), (22, (.pointer (some ⟨g20, 2, none⟩)))] [.idx (some ⟨g20, 0, none⟩) 2 4] (fun fb => by kernel_rfl) rfl ⟨⟨by decide, by decide, rfl⟩, trivial⟩ ?_
     refine WL.setI 20 (eq_of_beq h45).symm rfl ?_
     refine seg 3 [.v (.func (.func 31) #[] e1)] [8, 18, 19, 20] [(8, (.func (.func 31) #[] e1)), (18, (.slice (some ⟨g20, 0, none⟩) 4 4)), e2, e4] [.cell ⟨g20, 2, none⟩ (.func (.func 31) #[] e1)] (fun fb => by kernel_rfl) rfl ⟨hS28.cell 0 rfl 2 rfl, trivial⟩ ?_
     refine WL.done rfl (WX.next (WC.seq (WC.region ?_)))
     refine sg 1 [] [18, 19, 20, 24] [(18, (.slice (some ⟨g20, 0, none⟩) 4 4)), e2, e4, (24, (.func (.func 31) #[] e1))] (by kernel_rfl) ?_
     obtain ⟨t46, ht47, hl29⟩ := bind_some hl29
     refine WL.call (some 25) 31 e1 (fun fb => by kernel_rfl) (weight_Check_3_calls _ p0 p1 g7 Aa ca g10 Ab cb Ac cc Ad cd Ae ce Af cf t46 _ (hS28.ow 1) (hS28.rd 0) (hS28.ow 2) (hS28.rd 1) (hS28.rd 2) (hS28.rd 3) (hS28.rd 4) (hS28.rd 5) ht47) (fun v w48 hR49 => ?_)
     obtain ⟨rfl, hk_⟩ := hR49
     have hS50 := hS28.keepN hk_
     refine ⟨trivial, ?_⟩
     refine sg 3 [] [18, 19, 20, 26] [(18, (.slice (some ⟨g20, 0, none⟩) 4 4)), e2, e4, (26, (bv (!t46)))] (by kernel_rfl) ?_
     refine WL.done rfl (WX.next ?_)
     rcases br_some hl29 with ⟨h51, hl29⟩ | ⟨h51, hl29⟩
     ·refine WC.condT2 (fun fb => by kernel_rfl) h51 ?_
      refine WC.seq (WC.region ?_)
      refine sg 2 [] [4, 5] e7 (by kernel_rfl) ?_
      refine WL.done rfl (WX.next ?_)
      refine WC.ret ?_
      injection hl29 with hl29
      subst hl29
      injection hf with hf
      subst hf
      exact WX.blockR (WX.thenR (WX.thenR (WX.blockR (WX.thenR (WX.ret_ [] (.tuple e9) [] (fun fb => by kernel_rfl) trivial ⟨_, rfl, rfl, hS50.keep⟩)))))
     refine WC.condF2 (fun fb => by kernel_rfl) h51 ?_
     refine WC.skip ?_
     refine WX.blockN (WX.next ?_)
     refine WC.region ?_
     refine sg 2 [] e8 [(18, (.slice (some ⟨g20, 0, none⟩) 4 4)), e2, (20, (iv e6))] (by kernel_rfl) ?_
     refine WL.done rfl ?_
     exact WX.again k26 (Nat.lt_succ_self _) e6 e8 rfl ⟨(hS50.subR e5).sub [0, 1, 2] (by decide), hl29⟩
    rcases br_some hl29 with ⟨h52, hl29⟩ | ⟨h52, hl29⟩
    ·
     refine WL.setI 20 (eq_of_beq h52) rfl ?_
     refine seg 1 [] [18, 19, 20, 22] [(18, (.slice (some ⟨g20, 0, none⟩) 4 4)), e2, (20, (iv 3)), (22, (.pointer (some ⟨g20, 3, none⟩)))] [.idx (some ⟨g20, 0, none⟩) 3 4] (fun fb => by kernel_rfl) rfl ⟨⟨by decide, by decide, rfl⟩, trivial⟩ ?_
     refine WL.setI 20 (eq_of_beq h52).symm rfl ?_
     refine seg 3 [.v (.func (.func 33) #[] #[(pt g10)])] [8, 18, 19, 20] [(8, (.func (.func 33) #[] #[(pt g10)])), (18, (.slice (some ⟨g20, 0, none⟩) 4 4)), e2, e4] [.cell ⟨g20, 3, none⟩ (.func (.func 33) #[] #[(pt g10)])] (fun fb => by kernel_rfl) rfl ⟨hS28.cell 0 rfl 3 rfl, trivial⟩ ?_
     refine WL.done rfl (WX.next (WC.seq (WC.region ?_)))
     refine sg 1 [] [18, 19, 20, 24] [(18, (.slice (some ⟨g20, 0, none⟩) 4 4)), e2, e4, (24, (.func (.func 33) #[] #[(pt g10)]))] (by kernel_rfl) ?_
     obtain ⟨t53, ht54, hl29⟩ := bind_some hl29
     refine WL.call (some 25) 33 #[(pt g10)] (fun fb => by kernel_rfl) (weight_Check_4_calls _ p1 g10 Ab cb Ac cc Ad cd Ae ce Af cf t53 _ (hS28.ow 2) (hS28.rd 1) (hS28.rd 2) (hS28.rd 3) (hS28.rd 4) (hS28.rd 5) ht54) (fun v w55 hR56 => ?_)
     obtain ⟨rfl, hk_⟩ := hR56
     have hS57 := hS28.keepN hk_
     refine ⟨trivial, ?_⟩
     refine sg 3 [] [18, 19, 20, 26] [(18, (.slice (some ⟨g20, 0, none⟩) 4 4)), e2, e4, (26, (bv (!t53)))] (by kernel_rfl) ?_
     refine WL.done rfl (WX.next ?_)
     rcases br_some hl29 with ⟨h58, hl29⟩ | ⟨h58, hl29⟩
     ·refine WC.condT2 (fun fb => by kernel_rfl) h58 ?_
      refine WC.seq (WC.region ?_)
      refine sg 2 [] [4, 5] e7 (by kernel_rfl) ?_
      refine WL.done rfl (WX.next ?_)
      refine WC.ret ?_
      injection hl29 with hl29
      subst hl29
      injection hf with hf
      subst hf
      exact WX.blockR (WX.thenR (WX.thenR (WX.blockR (WX.thenR (WX.ret_ [] (.tuple e9) [] (fun fb => by kernel_rfl) trivial ⟨_, rfl, rfl, hS57.keep⟩)))))
     refine WC.condF2 (fun fb => by kernel_rfl) h58 ?_
     refine WC.skip ?_
     refine WX.blockN (WX.next ?_)
     refine WC.region ?_
     refine sg 2 [] e8 [(18, (.slice (some ⟨g20, 0, none⟩) 4 4)), e2, (20, (iv e6))] (by kernel_rfl) ?_
     refine WL.done rfl ?_
     exact WX.again k26 (Nat.lt_succ_self _) e6 e8 rfl ⟨(hS57.subR e5).sub [0, 1, 2] (by decide), hl29⟩
    cases hl29
   refine WC.condF2 (fun fb => by kernel_rfl) h30 ?_
   refine WC.exit ?_
   injection hl29 with hl29
   exact WX.thenX (WX.thenX (WX.blockHere (WX.to Kx24 () [] rfl ⟨(hS28.subR e5).sub [] (by decide), hl29.symm⟩)))
 rintro y62 w59 ⟨hS60, hq61⟩
 subst hq61
 have hf := sum_inr hf
 refine WX.next (WC.seq (WC.region ?_))
 refine sg 2 [] [4, 5] [(4, (bv true)), (5, (iv 0))] (by kernel_rfl) ?_
 refine WL.done rfl (WX.next ?_)
 refine WC.ret ?_
 injection hf with hf
 subst hf
 exact WX.ret_ [] (.tuple #[(bv true), (iv 0)]) [] (fun fb => by kernel_rfl) trivial ⟨_, rfl, rfl, hS60.keep⟩
theorem weight_common_calls (k : Nat) (p0 : List Frac) (Aa : Option Addr) (ca : Nat) (r : Int × Bool) (w : World) (hR0 : RO NoS w (rowR enc_Frac Aa ca p0)) (hf : weight_common k p0 = some r) :
  CallsR Tryz.prog 48 #[(sv Aa p0 ca)] w (fun v w' => v = (.tuple #[(iv r.1), (bv r.2)]) ∧ Keeps NoS w w') := by
 have hS : St NoS w w [rowR enc_Frac Aa ca p0] [] := St.init (ro_cons hR0 (ro_nil _ _))
 refine enter 28 Tryz.func48 rfl Tryz.ntmps48 rfl ?_
 unfold weight_common at hf
 refine WC.seq (WC.region ?_)
 refine sg 2 [] [0] [(0, (sv Aa p0 ca))] (by kernel_rfl) ?_
 refine WL.done rfl (WX.next (WC.seq (WC.region ?_)))
 refine sg 1 [] [0, 4] [(0, (sv Aa p0 ca)), (4, (iv 1))] (by kernel_rfl) ?_
 refine WL.done rfl (WX.next (WC.seq (WC.seq (WC.region ?_))))
 refine sg 3 [] [4, 8, 9, 10] [(4, (iv 1)), (8, (sv Aa p0 ca)), (9, (iv (p0.length : Int))), (10, (iv 0))] (by kernel_rfl) ?_
 refine WL.done rfl (WX.next ?_)
 obtain ⟨x5, hx6, hf⟩ := bind_some hf
 let e2 : Nat × Value := (9, (iv (p0.length : Int)))
 let e3 : Nat × Value := (8, (sv Aa p0 ca))
 refine WC.cutN (T := Int) (fun t => [(4, (iv t))]) (fun t w1 => St NoS w w1 [rowR enc_Frac Aa ca p0] [] ∧ x5 = .inr t) (fun Kx5 => ?_) ?_
 ·
  refine WC.block ?_
  refine WC.loop (T := Int × Int) (fun t => [(4, (iv t.1)), e3, e2, (10, (iv t.2))]) (fun n t w1 => St NoS w w1 [rowR enc_Frac Aa ca p0] [] ∧ weight_common.l0 n t.1 t.2 p0 = some x5) k (1, 0) [4, 8, 9, 10] rfl ⟨(hS.subR [0]).sub [] (by decide), hx6⟩ ?_
  rintro k7 ⟨x3, x4⟩ w8 ⟨hS9, hl10⟩
  let e1 := rdD p0 x4 z_Frac
  let e4 : Array Value := #[(iv (e1.Num)), (iv (e1.Den))]
  let e5 : Nat × Value := (10, (iv x4))
  cases k7 with
  | zero => rw [weight_common.l0] at hl10; cases hl10
  | succ k7 =>
   rw [weight_common.l0] at hl10
   refine WC.seq (WC.region ?_)
   refine sg 1 [] [4, 8, 9, 10, 11] [(4, (iv x3)), e3, e2, e5, (11, (bv (decide (x4 < (p0.length : Int)))))] (by kernel_rfl) ?_
   refine WL.done rfl (WX.next (WC.seq ?_))
   rcases br_some hl10 with ⟨h11, hl10⟩ | ⟨h11, hl10⟩
   ·refine WC.condT2 (fun fb => by kernel_rfl) h11 ?_
    refine WC.skip (WX.next (WC.seq (WC.block (WC.seq (WC.region ?_)))))
    obtain ⟨h12, hl10⟩ := as_some hl10
    refine seg 2 [.v (iv (e1.Num)), .v (iv (e1.Den))] [4, 8, 9, 10, 13] [(4, (iv x3)), e3, e2, e5, (13, (.agg e4))] [.idx Aa x4 p0.length, .cell ((adr Aa).add ((x4).toNat * 2)) (iv (e1.Num)), .cell (((adr Aa).add ((x4).toNat * 2)).add 1) (iv (e1.Den))] (fun fb => by kernel_rfl) rfl ⟨rowR.adr (hS9.rd 0).1 h12.1 h12.2, rowR.cell (hS9.rd 0).1 z_Frac h12.1 h12.2 0 rfl, rowR.cell (hS9.rd 0).1 z_Frac h12.1 h12.2 1 rfl, trivial⟩ ?_
    refine WL.new hS9 6 [] (fun g => (pt g)) (.cells #[(iv 0), (iv 0)] 33 (0, 0)) [] (fun fb g => by kernel_rfl) trivial (fun g13 w14 hS15 => ?_)
    refine ⟨trivial, ?_⟩
    refine WL.store hS15 0 rfl [(0, (iv (e1.Num))), (1, (iv (e1.Den)))] e4 (fun fb => by kernel_rfl) (by kernel_rfl) rfl [] (by decide) (by decide) (fun w16 hS17 => ?_)
    refine ⟨trivial, ?_⟩
    refine WL.done rfl (WX.next (WC.seq (WC.region ?_)))
    refine seg 1 [.v (iv (e1.Num)), .v (iv (e1.Den))] [4, 8, 9, 10, 14] [(4, (iv x3)), e3, e2, e5, (14, (.agg e4))] [.cell ⟨g13, 0, none⟩ (iv (e1.Num)), .cell ⟨g13, 1, none⟩ (iv (e1.Den))] (fun fb => by kernel_rfl) rfl ⟨hS17.cell 0 rfl 0 rfl, hS17.cell 0 rfl 1 rfl, trivial⟩ ?_
    obtain ⟨t18, ht19, hl10⟩ := bind_some hl10
    refine WL.call (some 15) 50 #[(.agg e4)] (fun fb => by kernel_rfl) (weight_fraction_lowest_calls _ (Fraction.mk (e1.Num) (e1.Den)) t18 _ ht19) (fun v w20 hR21 => ?_)
    obtain ⟨rfl, hk_⟩ := hR21
    have hS22 := hS17.keepN hk_
    refine ⟨trivial, ?_⟩
    refine sg 4 [] [4, 7, 8, 9, 10] [(4, (iv x3)), (7, (iv t18.Den)), e3, e2, e5] (by kernel_rfl) ?_
    refine WL.done rfl (WX.next (WC.seq (WC.region ?_)))
    refine sg 4 [] [8, 9, 10, 17, 18, 19, 20] [e3, e2, e5, (17, (iv x3)), (18, (iv t18.Den)), (19, (iv x3)), (20, (iv t18.Den))] (by kernel_rfl) ?_
    obtain ⟨t23, ht24, hl10⟩ := bind_some hl10
    refine WL.call (some 21) 74 #[(iv x3), (iv t18.Den)] (fun fb => by kernel_rfl) (weight_gcd_calls _ x3 t18.Den t23 _ ht24) (fun v w25 hR26 => ?_)
    obtain ⟨rfl, hk_⟩ := hR26
    have hS27 := hS22.keepN hk_
    refine ⟨trivial, ?_⟩
    obtain ⟨h28, hl10⟩ := as_some hl10
    refine seg 8 [] [4, 8, 9, 10] [(4, (iv (w64 (x3 * (w64 (Int.tdiv t18.Den t23)))))), e3, e2, e5] [.ne t23] (fun fb => by kernel_rfl) rfl ⟨h28, trivial⟩ ?_
    refine WL.done rfl (WX.next (WC.seq (WC.region ?_)))
    refine sg 2 [] [4, 8, 9, 10, 25] [(4, (iv (w64 (x3 * (w64 (Int.tdiv t18.Den t23)))))), e3, e2, e5, (25, (bv (decide (w64 (x3 * (w64 (Int.tdiv t18.Den t23))) > 1000000))))] (by kernel_rfl) ?_
    refine WL.done rfl (WX.next ?_)
    rcases br_some hl10 with ⟨h29, hl10⟩ | ⟨h29, hl10⟩
    ·refine WC.condT2 (fun fb => by kernel_rfl) h29 ?_
     refine WC.seq (WC.region ?_)
     refine sg 2 [] [2, 3] [(2, (iv 0)), (3, (bv false))] (by kernel_rfl) ?_
     refine WL.done rfl (WX.next ?_)
     refine WC.ret ?_
     injection hl10 with hl10
     subst hl10
     injection hf with hf
     subst hf
     exact WX.blockR (WX.thenR (WX.thenR (WX.blockR (WX.thenR (WX.ret_ [] (.tuple #[(iv 0), (bv false)]) [] (fun fb => by kernel_rfl) trivial ⟨_, rfl, rfl, hS27.keep⟩)))))
    refine WC.condF2 (fun fb => by kernel_rfl) h29 ?_
    refine WC.skip ?_
    refine WX.blockN (WX.next ?_)
    refine WC.region ?_
    refine sg 2 [] [4, 8, 9, 10] [(4, (iv (w64 (x3 * (w64 (Int.tdiv t18.Den t23)))))), e3, e2, (10, (iv (w64 (x4 + 1))))] (by kernel_rfl) ?_
    refine WL.done rfl ?_
    exact WX.again k7 (Nat.lt_succ_self _) (w64 (x3 * (w64 (Int.tdiv t18.Den t23))), w64 (x4 + 1)) [4, 8, 9, 10] rfl ⟨(hS27.subR [0]).sub [] (by decide), hl10⟩
   refine WC.condF2 (fun fb => by kernel_rfl) h11 ?_
   refine WC.exit ?_
   injection hl10 with hl10
   exact WX.thenX (WX.thenX (WX.blockHere (WX.to Kx5 x3 [4] rfl ⟨(hS9.subR [0]).sub [] (by decide), hl10.symm⟩)))
 rintro y33 w30 ⟨hS31, hq32⟩
 subst hq32
 have hf := sum_inr hf
 refine WX.next (WC.seq (WC.region ?_))
 refine sg 3 [] [2, 3] [(2, (iv y33)), (3, (bv true))] (by kernel_rfl) ?_
 refine WL.done rfl (WX.next ?_)
 refine WC.ret ?_
 injection hf with hf
 subst hf
 exact WX.ret_ [] (.tuple #[(iv y33), (bv true)]) [] (fun fb => by kernel_rfl) trivial ⟨_, rfl, rfl, hS31.keep⟩
theorem weight_Row_1_calls (k : Nat) (p0 : Int) (f0 : Weights) (f1 : Int) (ga : Nat) (Aa : Option Addr) (ca : Nat) (Ab : Option Addr) (cb : Nat) (Ac : Option Addr) (cc : Nat) (Ad : Option Addr) (cd : Nat) (Ae : Option Addr) (ce : Nat) (gb : Nat) (r : Int) (w : World) (hR0 : RO NoS w (blk ga (.cells #[(sv Aa f0.Values ca), (sv Ab f0.Carries cb), (sv Ac f0.Factors cc), (sv Ad f0.Primes cd), (sv Ae f0.Logs ce)] 26 (0, 0)))) (hR1 : RO NoS w (rowR enc_Frac Aa ca f0.Values)) (hR2 : RO NoS w (rowR enc_Frac Ab cb f0.Carries)) (hR3 : RO NoS w (rowR enc_Frac Ac cc f0.Factors)) (hR4 : RO NoS w (rowR encInt Ad cd f0.Primes)) (hR5 : RO NoS w (rowR encInt Ae ce f0.Logs)) (hR6 : RO NoS w (blk gb (.cells #[(iv f1)] 3 (0, 0)))) (hf : weight_Row_1 k p0 f0 f1 = some r) :
  CallsR Tryz.prog 49 #[(iv p0), (pt ga), (pt gb)] w (fun v w' => v = (iv r) ∧ Keeps NoS w w') := by
 have hS : St NoS w w [blk ga (.cells #[(sv Aa f0.Values ca), (sv Ab f0.Carries cb), (sv Ac f0.Factors cc), (sv Ad f0.Primes cd), (sv Ae f0.Logs ce)] 26 (0, 0)), rowR enc_Frac Aa ca f0.Values, rowR enc_Frac Ab cb f0.Carries, rowR enc_Frac Ac cc f0.Factors, rowR encInt Ad cd f0.Primes, rowR encInt Ae ce f0.Logs, blk gb (.cells #[(iv f1)] 3 (0, 0))] [] := St.init (ro_cons hR0 (ro_cons hR1 (ro_cons hR2 (ro_cons hR3 (ro_cons hR4 (ro_cons hR5 (ro_cons hR6 (ro_nil _ _))))))))
 refine enter 19 Tryz.func49 rfl Tryz.ntmps49 rfl ?_
 unfold weight_Row_1 at hf
 refine WC.seq (WC.region ?_)
 refine sg 1 [] [0, 1, 2] [(0, (iv p0)), (1, (pt ga)), (2, (pt gb))] (by kernel_rfl) ?_
 refine WL.done rfl (WX.next (WC.seq (WC.region ?_)))
 refine seg 3 [.v (sv Aa f0.Values ca)] [2, 7, 8] [(2, (pt gb)), (7, (sv Aa f0.Values ca)), (8, (iv p0))] [.cell ⟨ga, 0, none⟩ (sv Aa f0.Values ca)] (fun fb => by kernel_rfl) rfl ⟨blk_cell (hS.rd 0).1 0 rfl, trivial⟩ ?_
 obtain ⟨h7, hf⟩ := as_some hf
 let e1 := rdD f0.Values p0 z_Frac
 refine seg 5 [.v (iv (e1.Num)), .v (iv (e1.Den))] [2, 10] [(2, (pt gb)), (10, (.agg #[(iv (e1.Num)), (iv (e1.Den))]))] [.idx Aa p0 f0.Values.length, .cell ((adr Aa).add ((p0).toNat * 2)) (iv (e1.Num)), .cell (((adr Aa).add ((p0).toNat * 2)).add 1) (iv (e1.Den))] (fun fb => by kernel_rfl) rfl ⟨rowR.adr (hS.rd 1).1 h7.1 h7.2, rowR.cell (hS.rd 1).1 z_Frac h7.1 h7.2 0 rfl, rowR.cell (hS.rd 1).1 z_Frac h7.1 h7.2 1 rfl, trivial⟩ ?_
 obtain ⟨t8, ht9, hf⟩ := bind_some hf
 refine WL.call (some 11) 50 #[(.agg #[(iv (e1.Num)), (iv (e1.Den))])] (fun fb => by kernel_rfl) (weight_fraction_lowest_calls _ (Fraction.mk (e1.Num) (e1.Den)) t8 _ ht9) (fun v w10 hR11 => ?_)
 obtain ⟨rfl, hk_⟩ := hR11
 have hS12 := hS.keepN hk_
 refine ⟨trivial, ?_⟩
 refine WL.new hS12 5 [] (fun g => (pt g)) (.cells #[(iv 0), (iv 0)] 63 (0, 0)) [] (fun fb g => by kernel_rfl) trivial (fun g13 w14 hS15 => ?_)
 refine ⟨trivial, ?_⟩
 refine WL.store hS15 0 rfl [(0, (iv t8.Num)), (1, (iv t8.Den))] #[(iv t8.Num), (iv t8.Den)] (fun fb => by kernel_rfl) (by kernel_rfl) rfl [] (by decide) (by decide) (fun w16 hS17 => ?_)
 refine ⟨trivial, ?_⟩
 refine WL.done rfl (WX.next (WC.seq ?_))
 obtain ⟨h20, hf⟩ := as_some hf
 refine WC.regionD ([(1, ⟨g13, 0, none⟩, (iv t8.Num)), (2, ⟨gb, 0, none⟩, (iv f1)), (4, ⟨g13, 1, none⟩, (iv t8.Den))], [0, 1, 2, 3, 4, 5, 6, 7], [[], [0], [], [], [3], [2, 3, 4], [0, 1, 2, 3, 4, 5], [0, 1, 2, 3, 4, 5, 6]]) [[0, 1, 2, 3, 4, 5, 6, 7]] (by kernel_rfl) (by kernel_rfl) (NoPanic.seq (NoPanic.body)) ?_
 have hS19 := hS17.drew
 revert hS19
 generalize World.drew w16 = w18
 intro hS19
 refine ⟨⟨hS19.cell 0 rfl 0 rfl, blk_cell (hS19.rd 6).1 0 rfl, hS19.cell 0 rfl 1 rfl, trivial⟩, forallC ?_ (forallN)⟩
 refine segF 8 [.v (iv t8.Num), .v (iv f1), .v (iv t8.Den)] [4] [(4, (iv (w64 (t8.Num * (w64 (Int.tdiv f1 t8.Den))))))] [.ne t8.Den] [0, 1, 2] [(1, ⟨g13, 0, none⟩, (iv t8.Num)), (2, ⟨gb, 0, none⟩, (iv f1)), (4, ⟨g13, 1, none⟩, (iv t8.Den))] (fun fb => by kernel_rfl) rfl ⟨h20, trivial⟩ rfl ?_
 refine WL.done rfl (WX.next ?_)
 refine WC.ret ?_
 injection hf with hf
 subst hf
 exact WX.ret_ [] (iv (w64 (t8.Num * (w64 (Int.tdiv f1 t8.Den))))) [] (fun fb => by kernel_rfl) trivial ⟨_, rfl, rfl, hS19.keep⟩
end Gp
