/- Walks: each function of the program computes its plain function. -/
import Derived.Test.YtfehljifahnipaaDoorGx1
set_option linter.unusedVariables false
set_option linter.unusedSimpArgs false
set_option maxHeartbeats 4000000
set_option maxRecDepth 8000
namespace Gp
open Go Gw Go.Proofs
theorem weight_equal_calls (p0 : Frac) (p1 : Frac)  (r : Bool) (w : World)  (hf : weight_equal p0 p1 = some r) :
  CallsR Tryd.prog 13 #[(.agg #[(iv p0.Num), (iv p0.Den)]), (.agg #[(iv p1.Num), (iv p1.Den)])] w (fun v w' => v = (bv r) ∧ Keeps NoS w w') := by
 have hS : St NoS w w [] [] := St.init (ro_nil _ _)
 refine enter 16 Tryd.func13 rfl Tryd.ntmps13 rfl ?_
 unfold weight_equal at hf
 refine WC.seq (WC.region ?_)
 refine WL.new hS 2 [] (fun g => (pt g)) (.cells #[(iv p0.Num), (iv p0.Den)] 36 (0, 0)) [] (fun fb g => by kernel_rfl) trivial (fun g2 w3 hS4 => ?_)
 refine ⟨trivial, ?_⟩
 refine WL.new hS4 3 [] (fun g => (pt g)) (.cells #[(iv p1.Num), (iv p1.Den)] 36 (0, 0)) [] (fun fb g => by kernel_rfl) trivial (fun g5 w6 hS7 => ?_)
 refine ⟨trivial, ?_⟩
 refine seg 3 [] [2, 3] [(2, (pt g2)), (3, (pt g5))] [] (fun fb => by kernel_rfl) rfl trivial ?_
 refine WL.done rfl (WX.next (WC.seq (WC.region ?_)))
 refine seg 12 [.v (iv p0.Num), .v (iv p1.Den), .v (iv p1.Num), .v (iv p0.Den)] [4] [(4, (bv ((w64 (p0.Num * p1.Den)) == (w64 (p1.Num * p0.Den)))))] [.cell ⟨g2, 0, none⟩ (iv p0.Num), .cell ⟨g5, 1, none⟩ (iv p1.Den), .cell ⟨g5, 0, none⟩ (iv p1.Num), .cell ⟨g2, 1, none⟩ (iv p0.Den)] (fun fb => by kernel_rfl) rfl ⟨hS7.cell 1 rfl 0 rfl, hS7.cell 0 rfl 1 rfl, hS7.cell 0 rfl 0 rfl, hS7.cell 1 rfl 1 rfl, trivial⟩ ?_
 refine WL.done rfl (WX.next ?_)
 refine WC.ret ?_
 injection hf with hf
 subst hf
 exact WX.ret_ [] (bv ((w64 (p0.Num * p1.Den)) == (w64 (p1.Num * p0.Den)))) [] (fun fb => by kernel_rfl) trivial ⟨_, rfl, rfl, hS7.keep⟩
theorem weight_Check_2_key3 : KeyK Tryd.prog 3 (vI .i64) := KeyK.int (by kernel_rfl)
theorem weight_Check_2_calls (k : Nat) (f0 : List Tile) (f1 : Weights) (ga : Nat) (Aa : Option Addr) (ca : Nat) (gb : Nat) (Ab : Option Addr) (cb : Nat) (Ac : Option Addr) (cc : Nat) (Ad : Option Addr) (cd : Nat) (Ae : Option Addr) (ce : Nat) (Af : Option Addr) (cf : Nat) (r : Bool) (w : World) (hR0 : RO NoS w (blk ga (.cells #[(sv Aa f0 ca)] 22 (0, 0)))) (hR1 : RO NoS w (rowR enc_Tile Aa ca f0)) (hR2 : RO NoS w (blk gb (.cells #[(sv Ab f1.Values cb), (sv Ac f1.Carries cc), (sv Ad f1.Factors cd), (sv Ae f1.Primes ce), (sv Af f1.Logs cf)] 26 (0, 0)))) (hR3 : RO NoS w (rowR enc_Frac Ab cb f1.Values)) (hR4 : RO NoS w (rowR enc_Frac Ac cc f1.Carries)) (hR5 : RO NoS w (rowR enc_Frac Ad cd f1.Factors)) (hR6 : RO NoS w (rowR encInt Ae ce f1.Primes)) (hR7 : RO NoS w (rowR encInt Af cf f1.Logs)) (hf : weight_Check_2 k f0 f1 = some r) :
  CallsR Tryd.prog 12 #[(pt ga), (pt gb)] w (fun v w' => v = (bv r) ∧ Keeps NoS w w') := by
 have hS : St NoS w w [blk ga (.cells #[(sv Aa f0 ca)] 22 (0, 0)), rowR enc_Tile Aa ca f0, blk gb (.cells #[(sv Ab f1.Values cb), (sv Ac f1.Carries cc), (sv Ad f1.Factors cd), (sv Ae f1.Primes ce), (sv Af f1.Logs cf)] 26 (0, 0)), rowR enc_Frac Ab cb f1.Values, rowR enc_Frac Ac cc f1.Carries, rowR enc_Frac Ad cd f1.Factors, rowR encInt Ae ce f1.Primes, rowR encInt Af cf f1.Logs] [] := St.init (ro_cons hR0 (ro_cons hR1 (ro_cons hR2 (ro_cons hR3 (ro_cons hR4 (ro_cons hR5 (ro_cons hR6 (ro_cons hR7 (ro_nil _ _)))))))))
 refine enter 87 Tryd.func12 rfl Tryd.ntmps12 rfl ?_
 unfold weight_Check_2 at hf
 refine WC.seq (WC.region ?_)
 refine seg 1 [] [0, 1] [(0, (pt ga)), (1, (pt gb))] [] (fun fb => by kernel_rfl) rfl trivial ?_
 refine WL.done rfl (WX.next (WC.seq (WC.region ?_)))
 refine WL.new hS 14 [] (fun g => (.map (some g))) (mapObj (vI .i64) (aggI ints_Frac) ([] : List (Int × Frac))) [] (fun fb g => by kernel_rfl) trivial (fun g8 w9 hS10 => ?_)
 refine ⟨trivial, ?_⟩
 refine seg 2 [] [0, 1, 3] [(0, (pt ga)), (1, (pt gb)), (3, (.map (some g8)))] [] (fun fb => by kernel_rfl) rfl trivial ?_
 refine WL.done rfl (WX.next (WC.seq (WC.seq (WC.region ?_))))
 refine seg 3 [.v (sv Aa f0 ca)] [0, 1, 3, 15, 16, 17] [(0, (pt ga)), (1, (pt gb)), (3, (.map (some g8))), (15, (sv Aa f0 ca)), (16, (iv (f0.length : Int))), (17, (iv 0))] [.cell ⟨ga, 0, none⟩ (sv Aa f0 ca)] (fun fb => by kernel_rfl) rfl ⟨blk_cell (hS10.rd 0).1 0 rfl, trivial⟩ ?_
 refine WL.done rfl (WX.next ?_)
 obtain ⟨x14, hx15, hf⟩ := bind_some hf
 refine WC.cutN (T := (List (Int × Frac))) (fun t => [(0, (pt ga)), (1, (pt gb)), (3, (.map (some g8)))]) (fun t w1 => St NoS w w1 [blk ga (.cells #[(sv Aa f0 ca)] 22 (0, 0)), rowR enc_Tile Aa ca f0, blk gb (.cells #[(sv Ab f1.Values cb), (sv Ac f1.Carries cc), (sv Ad f1.Factors cd), (sv Ae f1.Primes ce), (sv Af f1.Logs cf)] 26 (0, 0)), rowR enc_Frac Ab cb f1.Values, rowR enc_Frac Ac cc f1.Carries, rowR enc_Frac Ad cd f1.Factors, rowR encInt Ae ce f1.Primes, rowR encInt Af cf f1.Logs] [blk g8 (mapObj (vI .i64) (aggI ints_Frac) t)] ∧ x14 = .inr t) (fun Kx14 => ?_) ?_
 ·
  refine WC.block ?_
  refine WC.loop (T := (List (Int × Frac)) × Int) (fun t => [(0, (pt ga)), (1, (pt gb)), (3, (.map (some g8))), (15, (sv Aa f0 ca)), (16, (iv (f0.length : Int))), (17, (iv t.2))]) (fun n t w1 => St NoS w w1 [blk ga (.cells #[(sv Aa f0 ca)] 22 (0, 0)), rowR enc_Tile Aa ca f0, blk gb (.cells #[(sv Ab f1.Values cb), (sv Ac f1.Carries cc), (sv Ad f1.Factors cd), (sv Ae f1.Primes ce), (sv Af f1.Logs cf)] 26 (0, 0)), rowR enc_Frac Ab cb f1.Values, rowR enc_Frac Ac cc f1.Carries, rowR enc_Frac Ad cd f1.Factors, rowR encInt Ae ce f1.Primes, rowR encInt Af cf f1.Logs] [blk g8 (mapObj (vI .i64) (aggI ints_Frac) t.1)] ∧ weight_Check_2.l0 n t.1 t.2 f0 f1 = some x14) k (([] : List (Int × Frac)), 0) [0, 1, 3, 15, 16, 17] rfl ⟨(hS10.subR [0, 1, 2, 3, 4, 5, 6, 7]).sub [0] (by decide), hx15⟩ ?_
  rintro k16 ⟨l11, x13⟩ w17 ⟨hS18, hl19⟩
  cases k16 with
  | zero => rw [weight_Check_2.l0] at hl19; cases hl19
  | succ k16 =>
   rw [weight_Check_2.l0] at hl19
   refine WC.seq (WC.region ?_)
   refine seg 1 [] [0, 1, 3, 15, 16, 17, 18] [(0, (pt ga)), (1, (pt gb)), (3, (.map (some g8))), (15, (sv Aa f0 ca)), (16, (iv (f0.length : Int))), (17, (iv x13)), (18, (bv (decide (x13 < (f0.length : Int)))))] [] (fun fb => by kernel_rfl) rfl trivial ?_
   refine WL.done rfl (WX.next (WC.seq ?_))
   rcases br_some hl19 with ⟨h20, hl19⟩ | ⟨h20, hl19⟩
   ·refine WC.condT2 (fun fb => by kernel_rfl) h20 ?_
    refine WC.skip (WX.next (WC.seq (WC.block (WC.seq (WC.region ?_)))))
    refine seg 1 [] [0, 1, 3, 15, 16, 17, 19] [(0, (pt ga)), (1, (pt gb)), (3, (.map (some g8))), (15, (sv Aa f0 ca)), (16, (iv (f0.length : Int))), (17, (iv x13)), (19, (iv x13))] [] (fun fb => by kernel_rfl) rfl trivial ?_
    obtain ⟨h21, hl19⟩ := as_some hl19
    refine seg 3 [.v (iv ((rdD f0 x13 z_Tile).N)), .v (iv ((rdD f0 x13 z_Tile).E)), .v (iv ((rdD f0 x13 z_Tile).S)), .v (iv ((rdD f0 x13 z_Tile).W))] [0, 1, 3, 15, 16, 17, 19, 21] [(0, (pt ga)), (1, (pt gb)), (3, (.map (some g8))), (15, (sv Aa f0 ca)), (16, (iv (f0.length : Int))), (17, (iv x13)), (19, (iv x13)), (21, (.agg #[(iv ((rdD f0 x13 z_Tile).N)), (iv ((rdD f0 x13 z_Tile).E)), (iv ((rdD f0 x13 z_Tile).S)), (iv ((rdD f0 x13 z_Tile).W))]))] [.idx Aa x13 f0.length, .cell ((adr Aa).add ((x13).toNat * 4)) (iv ((rdD f0 x13 z_Tile).N)), .cell (((adr Aa).add ((x13).toNat * 4)).add 1) (iv ((rdD f0 x13 z_Tile).E)), .cell (((adr Aa).add ((x13).toNat * 4)).add 2) (iv ((rdD f0 x13 z_Tile).S)), .cell (((adr Aa).add ((x13).toNat * 4)).add 3) (iv ((rdD f0 x13 z_Tile).W))] (fun fb => by kernel_rfl) rfl ⟨rowR.adr (hS18.rd 1).1 h21.1 h21.2, rowR.cell (hS18.rd 1).1 z_Tile h21.1 h21.2 0 rfl, rowR.cell (hS18.rd 1).1 z_Tile h21.1 h21.2 1 rfl, rowR.cell (hS18.rd 1).1 z_Tile h21.1 h21.2 2 rfl, rowR.cell (hS18.rd 1).1 z_Tile h21.1 h21.2 3 rfl, trivial⟩ ?_
    refine WL.new hS18 5 [] (fun g => (pt g)) (.cells #[(iv 0), (iv 0), (iv 0), (iv 0)] 39 (0, 0)) [] (fun fb g => by kernel_rfl) trivial (fun g22 w23 hS24 => ?_)
    refine ⟨trivial, ?_⟩
    refine seg 5 [] [0, 1, 3, 4, 5, 15, 16, 17, 21] [(0, (pt ga)), (1, (pt gb)), (3, (.map (some g8))), (4, (iv x13)), (5, (pt g22)), (15, (sv Aa f0 ca)), (16, (iv (f0.length : Int))), (17, (iv x13)), (21, (.agg #[(iv ((rdD f0 x13 z_Tile).N)), (iv ((rdD f0 x13 z_Tile).E)), (iv ((rdD f0 x13 z_Tile).S)), (iv ((rdD f0 x13 z_Tile).W))]))] [] (fun fb => by kernel_rfl) rfl trivial ?_
    refine WL.store hS24 0 rfl [(0, (iv ((rdD f0 x13 z_Tile).N))), (1, (iv ((rdD f0 x13 z_Tile).E))), (2, (iv ((rdD f0 x13 z_Tile).S))), (3, (iv ((rdD f0 x13 z_Tile).W)))] #[(iv ((rdD f0 x13 z_Tile).N)), (iv ((rdD f0 x13 z_Tile).E)), (iv ((rdD f0 x13 z_Tile).S)), (iv ((rdD f0 x13 z_Tile).W))] (fun fb => by kernel_rfl) (by kernel_rfl) rfl [1] (by decide) (by decide) (fun w25 hS26 => ?_)
    refine ⟨trivial, ?_⟩
    refine WL.done rfl (WX.next (WC.seq (WC.seq (WC.region ?_))))
    refine seg 3 [.v (iv ((rdD f0 x13 z_Tile).W))] [0, 1, 3, 4, 5, 15, 16, 17, 23, 25] [(0, (pt ga)), (1, (pt gb)), (3, (.map (some g8))), (4, (iv x13)), (5, (pt g22)), (15, (sv Aa f0 ca)), (16, (iv (f0.length : Int))), (17, (iv x13)), (23, (.map (some g8))), (25, (iv ((rdD f0 x13 z_Tile).W)))] [.cell ⟨g22, 3, none⟩ (iv ((rdD f0 x13 z_Tile).W))] (fun fb => by kernel_rfl) rfl ⟨hS26.cell 0 rfl 3 rfl, trivial⟩ ?_
    refine WL.lookup (hS26.own 1).1 ((rdD f0 x13 z_Tile).W) (d := 26) (c := true) (t := 42) (kT := 3) (eT := 36) (z := z_Frac) (kE := (vI .i64)) (vE := (aggI ints_Frac)) (l := l11) (.tuple #[(.agg #[(iv ((mget ((rdD f0 x13 z_Tile).W) z_Frac l11).Num)), (iv ((mget ((rdD f0 x13 z_Tile).W) z_Frac l11).Den))]), (bv (mhas ((rdD f0 x13 z_Tile).W) l11))]) (fun fb => by kernel_rfl) weight_Check_2_key3 (by kernel_rfl) (fun _ => by kernel_rfl) rfl ?_
    refine ⟨trivial, ?_⟩
    refine seg 7 [] [0, 1, 3, 4, 5, 15, 16, 17, 27, 28] [(0, (pt ga)), (1, (pt gb)), (3, (.map (some g8))), (4, (iv x13)), (5, (pt g22)), (15, (sv Aa f0 ca)), (16, (iv (f0.length : Int))), (17, (iv x13)), (27, (.agg #[(iv ((mget ((rdD f0 x13 z_Tile).W) z_Frac l11).Num)), (iv ((mget ((rdD f0 x13 z_Tile).W) z_Frac l11).Den))])), (28, (bv (mhas ((rdD f0 x13 z_Tile).W) l11)))] [] (fun fb => by kernel_rfl) rfl trivial ?_
    refine WL.new hS26 6 [] (fun g => (pt g)) (.cells #[(iv 0), (iv 0)] 36 (0, 0)) [] (fun fb g => by kernel_rfl) trivial (fun g27 w28 hS29 => ?_)
    refine ⟨trivial, ?_⟩
    refine WL.store hS29 0 rfl [(0, (iv ((mget ((rdD f0 x13 z_Tile).W) z_Frac l11).Num))), (1, (iv ((mget ((rdD f0 x13 z_Tile).W) z_Frac l11).Den)))] #[(iv ((mget ((rdD f0 x13 z_Tile).W) z_Frac l11).Num)), (iv ((mget ((rdD f0 x13 z_Tile).W) z_Frac l11).Den))] (fun fb => by kernel_rfl) (by kernel_rfl) rfl [1, 2] (by decide) (by decide) (fun w30 hS31 => ?_)
    refine ⟨trivial, ?_⟩
    refine seg 10 [] [0, 1, 3, 4, 5, 6, 7, 15, 16, 17] [(0, (pt ga)), (1, (pt gb)), (3, (.map (some g8))), (4, (iv x13)), (5, (pt g22)), (6, (pt g27)), (7, (bv (mhas ((rdD f0 x13 z_Tile).W) l11))), (15, (sv Aa f0 ca)), (16, (iv (f0.length : Int))), (17, (iv x13))] [] (fun fb => by kernel_rfl) rfl trivial ?_
    refine WL.done rfl (WX.next (WC.seq ?_))
    obtain ⟨x32, hx33, hl19⟩ := bind_some hl19
    refine WC.cutN (T := Bool) (fun t => [(0, (pt ga)), (1, (pt gb)), (3, (.map (some g8))), (4, (iv x13)), (5, (pt g22)), (15, (sv Aa f0 ca)), (16, (iv (f0.length : Int))), (17, (iv x13)), (39, (bv t))]) (fun t w1 => St NoS w w1 [blk ga (.cells #[(sv Aa f0 ca)] 22 (0, 0)), rowR enc_Tile Aa ca f0, blk gb (.cells #[(sv Ab f1.Values cb), (sv Ac f1.Carries cc), (sv Ad f1.Factors cd), (sv Ae f1.Primes ce), (sv Af f1.Logs cf)] 26 (0, 0)), rowR enc_Frac Ab cb f1.Values, rowR enc_Frac Ac cc f1.Carries, rowR enc_Frac Ad cd f1.Factors, rowR encInt Ae ce f1.Primes, rowR encInt Af cf f1.Logs] [blk g8 (mapObj (vI .i64) (aggI ints_Frac) l11), blk g22 (.cells #[(iv ((rdD f0 x13 z_Tile).N)), (iv ((rdD f0 x13 z_Tile).E)), (iv ((rdD f0 x13 z_Tile).S)), (iv ((rdD f0 x13 z_Tile).W))] 39 (0, 0))] ∧ x32 = t) (fun Kx32 => ?_) ?_
    ·
     rcases br_some hx33 with ⟨h34, hx33⟩ | ⟨h34, hx33⟩
     ·
      obtain ⟨h37, hx33⟩ := as_some hx33
      refine WC.regionD ([(2, ⟨g27, 0, none⟩, (iv ((mget ((rdD f0 x13 z_Tile).W) z_Frac l11).Num))), (2, ⟨g27, 1, none⟩, (iv ((mget ((rdD f0 x13 z_Tile).W) z_Frac l11).Den))), (4, ⟨gb, 2, none⟩, (sv Ad f1.Factors cd)), (7, ((adr Ad).add ((x13).toNat * 2)), (iv ((rdD f1.Factors x13 z_Frac).Num))), (7, (((adr Ad).add ((x13).toNat * 2)).add 1), (iv ((rdD f1.Factors x13 z_Frac).Den)))], [0, 1, 2, 3, 4, 5, 6, 7, 9, 10], [[], [0], [0, 1], [0, 1], [0, 1, 3], [0, 1], [0, 1, 3, 4, 5], [0, 1, 3, 4, 5, 6], [0, 1, 2, 3, 4, 5, 6, 7], [0, 1, 2, 3, 4, 5, 6, 7, 8], [0, 1, 2, 3, 4, 5, 6, 7, 8, 9]]) [[0, 1, 2, 3, 4, 5, 6, 7, 8, 9, 10]] (by kernel_rfl) (by kernel_rfl) (NoPanic.seq (NoPanic.seq (NoPanic.block (NoPanic.seq (NoPanic.seq (NoPanic.block (NoPanic.seq (NoPanic.body)))))))) ?_
      have hS36 := hS31.drew
      revert hS36
      generalize World.drew w30 = w35
      intro hS36
      refine ⟨⟨hS36.cell 0 rfl 0 rfl, hS36.cell 0 rfl 1 rfl, blk_cell (hS36.rd 2).1 2 rfl, rowR.cell (hS36.rd 5).1 z_Frac h37.1 h37.2 0 rfl, rowR.cell (hS36.rd 5).1 z_Frac h37.1 h37.2 1 rfl, trivial⟩, forallC ?_ (forallN)⟩
      refine seg 2 [] [0, 1, 3, 4, 5, 6, 15, 16, 17, 30] [(0, (pt ga)), (1, (pt gb)), (3, (.map (some g8))), (4, (iv x13)), (5, (pt g22)), (6, (pt g27)), (15, (sv Aa f0 ca)), (16, (iv (f0.length : Int))), (17, (iv x13)), (30, (bv (mhas ((rdD f0 x13 z_Tile).W) l11)))] [] (fun fb => by kernel_rfl) rfl trivial ?_
      refine WL.setB 30 h34 rfl ?_
      refine segF 8 [.v (iv ((mget ((rdD f0 x13 z_Tile).W) z_Frac l11).Num)), .v (iv ((mget ((rdD f0 x13 z_Tile).W) z_Frac l11).Den)), .v (sv Ad f1.Factors cd), .v (iv ((rdD f1.Factors x13 z_Frac).Num)), .v (iv ((rdD f1.Factors x13 z_Frac).Den))] [0, 1, 3, 4, 5, 15, 16, 17, 30, 31, 36] [(0, (pt ga)), (1, (pt gb)), (3, (.map (some g8))), (4, (iv x13)), (5, (pt g22)), (15, (sv Aa f0 ca)), (16, (iv (f0.length : Int))), (17, (iv x13)), (30, (bv true)), (31, (.agg #[(iv ((mget ((rdD f0 x13 z_Tile).W) z_Frac l11).Num)), (iv ((mget ((rdD f0 x13 z_Tile).W) z_Frac l11).Den))])), (36, (.agg #[(iv ((rdD f1.Factors x13 z_Frac).Num)), (iv ((rdD f1.Factors x13 z_Frac).Den))]))] [.idx Ad x13 f1.Factors.length] [0, 1, 2, 3, 4] [(2, ⟨g27, 0, none⟩, (iv ((mget ((rdD f0 x13 z_Tile).W) z_Frac l11).Num))), (2, ⟨g27, 1, none⟩, (iv ((mget ((rdD f0 x13 z_Tile).W) z_Frac l11).Den))), (4, ⟨gb, 2, none⟩, (sv Ad f1.Factors cd)), (7, ((adr Ad).add ((x13).toNat * 2)), (iv ((rdD f1.Factors x13 z_Frac).Num))), (7, (((adr Ad).add ((x13).toNat * 2)).add 1), (iv ((rdD f1.Factors x13 z_Frac).Den)))] (fun fb => by kernel_rfl) rfl ⟨rowR.adr (hS36.rd 5).1 h37.1 h37.2, trivial⟩ rfl ?_
      obtain ⟨t38, ht39, hx33⟩ := bind_some hx33
      refine WL.call (some 37) 13 #[(.agg #[(iv ((mget ((rdD f0 x13 z_Tile).W) z_Frac l11).Num)), (iv ((mget ((rdD f0 x13 z_Tile).W) z_Frac l11).Den))]), (.agg #[(iv ((rdD f1.Factors x13 z_Frac).Num)), (iv ((rdD f1.Factors x13 z_Frac).Den))])] (fun fb => by kernel_rfl) (weight_equal_calls (mget ((rdD f0 x13 z_Tile).W) z_Frac l11) (rdD f1.Factors x13 z_Frac) t38 _ ht39) (fun v w40 hR41 => ?_)
      obtain ⟨rfl, hk_⟩ := hR41
      have hS42 := hS36.keepN hk_
      refine ⟨trivial, ?_⟩
      refine seg 11 [] [0, 1, 3, 4, 5, 15, 16, 17, 39] [(0, (pt ga)), (1, (pt gb)), (3, (.map (some g8))), (4, (iv x13)), (5, (pt g22)), (15, (sv Aa f0 ca)), (16, (iv (f0.length : Int))), (17, (iv x13)), (39, (bv (!t38)))] [] (fun fb => by kernel_rfl) rfl trivial ?_
      refine WL.done rfl ?_
      injection hx33 with hx33
      exact WX.to Kx32 (!t38) [0, 1, 3, 4, 5, 15, 16, 17, 39] rfl ⟨(hS42.subR [0, 1, 2, 3, 4, 5, 6, 7]).sub [2, 1] (by decide), hx33.symm⟩
     refine WC.regionD ([], [0, 1, 2, 3, 4, 5, 6, 7, 9, 10], [[], [0], [0, 1], [0, 1], [0, 1, 3], [0, 1], [0, 1, 3, 4, 5], [0, 1, 3, 4, 5, 6], [0, 1, 2, 3, 4, 5, 6, 7], [0, 1, 2, 3, 4, 5, 6, 7, 8], [0, 1, 2, 3, 4, 5, 6, 7, 8, 9]]) [[0, 1, 2, 3, 4, 5, 6, 7, 8, 9, 10]] (by kernel_rfl) (by kernel_rfl) (NoPanic.seq (NoPanic.seq (NoPanic.block (NoPanic.seq (NoPanic.seq (NoPanic.block (NoPanic.seq (NoPanic.body)))))))) ?_
     have hS44 := hS31.drew
     revert hS44
     generalize World.drew w30 = w43
     intro hS44
     refine ⟨trivial, forallC ?_ (forallN)⟩
     refine seg 2 [] [0, 1, 3, 4, 5, 6, 15, 16, 17, 30] [(0, (pt ga)), (1, (pt gb)), (3, (.map (some g8))), (4, (iv x13)), (5, (pt g22)), (6, (pt g27)), (15, (sv Aa f0 ca)), (16, (iv (f0.length : Int))), (17, (iv x13)), (30, (bv (mhas ((rdD f0 x13 z_Tile).W) l11)))] [] (fun fb => by kernel_rfl) rfl trivial ?_
     refine WL.setB 30 h34 rfl ?_
     refine seg 11 [] [0, 1, 3, 4, 5, 15, 16, 17, 39] [(0, (pt ga)), (1, (pt gb)), (3, (.map (some g8))), (4, (iv x13)), (5, (pt g22)), (15, (sv Aa f0 ca)), (16, (iv (f0.length : Int))), (17, (iv x13)), (39, (bv false))] [] (fun fb => by kernel_rfl) rfl trivial ?_
     refine WL.done rfl ?_
     injection hx33 with hx33
     exact WX.to Kx32 false [0, 1, 3, 4, 5, 15, 16, 17, 39] rfl ⟨(hS44.subR [0, 1, 2, 3, 4, 5, 6, 7]).sub [2, 1] (by decide), hx33.symm⟩
    rintro y48 w45 ⟨hS46, hq47⟩
    subst hq47
    refine WX.next ?_
    obtain ⟨x49, hx50, hl19⟩ := bind_some hl19
    refine WC.cutN (T := Unit) (fun t => [(0, (pt ga)), (1, (pt gb)), (3, (.map (some g8))), (4, (iv x13)), (5, (pt g22)), (15, (sv Aa f0 ca)), (16, (iv (f0.length : Int))), (17, (iv x13))]) (fun t w1 => St NoS w w1 [blk ga (.cells #[(sv Aa f0 ca)] 22 (0, 0)), rowR enc_Tile Aa ca f0, blk gb (.cells #[(sv Ab f1.Values cb), (sv Ac f1.Carries cc), (sv Ad f1.Factors cd), (sv Ae f1.Primes ce), (sv Af f1.Logs cf)] 26 (0, 0)), rowR enc_Frac Ab cb f1.Values, rowR enc_Frac Ac cc f1.Carries, rowR enc_Frac Ad cd f1.Factors, rowR encInt Ae ce f1.Primes, rowR encInt Af cf f1.Logs] [blk g8 (mapObj (vI .i64) (aggI ints_Frac) l11), blk g22 (.cells #[(iv ((rdD f0 x13 z_Tile).N)), (iv ((rdD f0 x13 z_Tile).E)), (iv ((rdD f0 x13 z_Tile).S)), (iv ((rdD f0 x13 z_Tile).W))] 39 (0, 0))] ∧ x49 = .inr t) (fun Kx49 => ?_) ?_
    ·
     rcases br_some hx50 with ⟨h51, hx50⟩ | ⟨h51, hx50⟩
     ·refine WC.condT2 (fun fb => by kernel_rfl) h51 ?_
      refine WC.seq (WC.region ?_)
      refine seg 3 [.v (sv Aa f0 ca)] [0, 1, 3, 4, 5, 15, 16, 17, 40, 41, 42] [(0, (pt ga)), (1, (pt gb)), (3, (.map (some g8))), (4, (iv x13)), (5, (pt g22)), (15, (sv Aa f0 ca)), (16, (iv (f0.length : Int))), (17, (iv x13)), (40, (sv Aa f0 ca)), (41, (iv (f0.length : Int))), (42, (iv 0))] [.cell ⟨ga, 0, none⟩ (sv Aa f0 ca)] (fun fb => by kernel_rfl) rfl ⟨blk_cell (hS46.rd 0).1 0 rfl, trivial⟩ ?_
      refine WL.done rfl (WX.next ?_)
      obtain ⟨x53, hx54, hx50⟩ := bind_some hx50
      refine WC.cutN (T := Unit) (fun t => [(0, (pt ga)), (1, (pt gb)), (3, (.map (some g8))), (4, (iv x13)), (5, (pt g22)), (15, (sv Aa f0 ca)), (16, (iv (f0.length : Int))), (17, (iv x13))]) (fun t w1 => St NoS w w1 [blk ga (.cells #[(sv Aa f0 ca)] 22 (0, 0)), rowR enc_Tile Aa ca f0, blk gb (.cells #[(sv Ab f1.Values cb), (sv Ac f1.Carries cc), (sv Ad f1.Factors cd), (sv Ae f1.Primes ce), (sv Af f1.Logs cf)] 26 (0, 0)), rowR enc_Frac Ab cb f1.Values, rowR enc_Frac Ac cc f1.Carries, rowR enc_Frac Ad cd f1.Factors, rowR encInt Ae ce f1.Primes, rowR encInt Af cf f1.Logs] [blk g8 (mapObj (vI .i64) (aggI ints_Frac) l11), blk g22 (.cells #[(iv ((rdD f0 x13 z_Tile).N)), (iv ((rdD f0 x13 z_Tile).E)), (iv ((rdD f0 x13 z_Tile).S)), (iv ((rdD f0 x13 z_Tile).W))] 39 (0, 0))] ∧ x53 = .inr t) (fun Kx53 => ?_) ?_
      ·
       refine WC.block ?_
       refine WC.loop (T := Int) (fun t => [(0, (pt ga)), (1, (pt gb)), (3, (.map (some g8))), (4, (iv x13)), (5, (pt g22)), (15, (sv Aa f0 ca)), (16, (iv (f0.length : Int))), (17, (iv x13)), (40, (sv Aa f0 ca)), (41, (iv (f0.length : Int))), (42, (iv t))]) (fun n t w1 => St NoS w w1 [blk ga (.cells #[(sv Aa f0 ca)] 22 (0, 0)), rowR enc_Tile Aa ca f0, blk gb (.cells #[(sv Ab f1.Values cb), (sv Ac f1.Carries cc), (sv Ad f1.Factors cd), (sv Ae f1.Primes ce), (sv Af f1.Logs cf)] 26 (0, 0)), rowR enc_Frac Ab cb f1.Values, rowR enc_Frac Ac cc f1.Carries, rowR enc_Frac Ad cd f1.Factors, rowR encInt Ae ce f1.Primes, rowR encInt Af cf f1.Logs] [blk g8 (mapObj (vI .i64) (aggI ints_Frac) l11), blk g22 (.cells #[(iv ((rdD f0 x13 z_Tile).N)), (iv ((rdD f0 x13 z_Tile).E)), (iv ((rdD f0 x13 z_Tile).S)), (iv ((rdD f0 x13 z_Tile).W))] 39 (0, 0))] ∧ weight_Check_2.l1 n t f0 x13 = some x53) k16 0 [0, 1, 3, 4, 5, 15, 16, 17, 40, 41, 42] rfl ⟨(hS46.subR [0, 1, 2, 3, 4, 5, 6, 7]).sub [0, 1] (by decide), hx54⟩ ?_
       rintro k55 x52 w56 ⟨hS57, hl58⟩
       cases k55 with
       | zero => rw [weight_Check_2.l1] at hl58; cases hl58
       | succ k55 =>
        rw [weight_Check_2.l1] at hl58
        refine WC.seq (WC.region ?_)
        refine seg 1 [] [0, 1, 3, 4, 5, 15, 16, 17, 40, 41, 42, 43] [(0, (pt ga)), (1, (pt gb)), (3, (.map (some g8))), (4, (iv x13)), (5, (pt g22)), (15, (sv Aa f0 ca)), (16, (iv (f0.length : Int))), (17, (iv x13)), (40, (sv Aa f0 ca)), (41, (iv (f0.length : Int))), (42, (iv x52)), (43, (bv (decide (x52 < (f0.length : Int)))))] [] (fun fb => by kernel_rfl) rfl trivial ?_
        refine WL.done rfl (WX.next (WC.seq ?_))
        rcases br_some hl58 with ⟨h59, hl58⟩ | ⟨h59, hl58⟩
        ·refine WC.condT2 (fun fb => by kernel_rfl) h59 ?_
         refine WC.skip (WX.next (WC.seq (WC.block (WC.seq (WC.region ?_)))))
         obtain ⟨h60, hl58⟩ := as_some hl58
         refine seg 2 [.v (iv ((rdD f0 x52 z_Tile).N)), .v (iv ((rdD f0 x52 z_Tile).E)), .v (iv ((rdD f0 x52 z_Tile).S)), .v (iv ((rdD f0 x52 z_Tile).W))] [0, 1, 3, 4, 5, 15, 16, 17, 40, 41, 42, 45] [(0, (pt ga)), (1, (pt gb)), (3, (.map (some g8))), (4, (iv x13)), (5, (pt g22)), (15, (sv Aa f0 ca)), (16, (iv (f0.length : Int))), (17, (iv x13)), (40, (sv Aa f0 ca)), (41, (iv (f0.length : Int))), (42, (iv x52)), (45, (.agg #[(iv ((rdD f0 x52 z_Tile).N)), (iv ((rdD f0 x52 z_Tile).E)), (iv ((rdD f0 x52 z_Tile).S)), (iv ((rdD f0 x52 z_Tile).W))]))] [.idx Aa x52 f0.length, .cell ((adr Aa).add ((x52).toNat * 4)) (iv ((rdD f0 x52 z_Tile).N)), .cell (((adr Aa).add ((x52).toNat * 4)).add 1) (iv ((rdD f0 x52 z_Tile).E)), .cell (((adr Aa).add ((x52).toNat * 4)).add 2) (iv ((rdD f0 x52 z_Tile).S)), .cell (((adr Aa).add ((x52).toNat * 4)).add 3) (iv ((rdD f0 x52 z_Tile).W))] (fun fb => by kernel_rfl) rfl ⟨rowR.adr (hS57.rd 1).1 h60.1 h60.2, rowR.cell (hS57.rd 1).1 z_Tile h60.1 h60.2 0 rfl, rowR.cell (hS57.rd 1).1 z_Tile h60.1 h60.2 1 rfl, rowR.cell (hS57.rd 1).1 z_Tile h60.1 h60.2 2 rfl, rowR.cell (hS57.rd 1).1 z_Tile h60.1 h60.2 3 rfl, trivial⟩ ?_
         refine WL.new hS57 9 [] (fun g => (pt g)) (.cells #[(iv 0), (iv 0), (iv 0), (iv 0)] 39 (0, 0)) [] (fun fb g => by kernel_rfl) trivial (fun g61 w62 hS63 => ?_)
         refine ⟨trivial, ?_⟩
         refine WL.store hS63 0 rfl [(0, (iv ((rdD f0 x52 z_Tile).N))), (1, (iv ((rdD f0 x52 z_Tile).E))), (2, (iv ((rdD f0 x52 z_Tile).S))), (3, (iv ((rdD f0 x52 z_Tile).W)))] #[(iv ((rdD f0 x52 z_Tile).N)), (iv ((rdD f0 x52 z_Tile).E)), (iv ((rdD f0 x52 z_Tile).S)), (iv ((rdD f0 x52 z_Tile).W))] (fun fb => by kernel_rfl) (by kernel_rfl) rfl [1, 2] (by decide) (by decide) (fun w65 hS66 => ?_)
         refine ⟨trivial, ?_⟩
         refine WL.done rfl (WX.next (WC.seq (WC.region ?_)))
         refine seg 5 [.v (iv ((rdD f0 x52 z_Tile).E)), .v (iv ((rdD f0 x13 z_Tile).W))] [0, 1, 3, 4, 5, 15, 16, 17, 40, 41, 42, 50] [(0, (pt ga)), (1, (pt gb)), (3, (.map (some g8))), (4, (iv x13)), (5, (pt g22)), (15, (sv Aa f0 ca)), (16, (iv (f0.length : Int))), (17, (iv x13)), (40, (sv Aa f0 ca)), (41, (iv (f0.length : Int))), (42, (iv x52)), (50, (bv (((rdD f0 x52 z_Tile).E) == ((rdD f0 x13 z_Tile).W))))] [.cell ⟨g61, 1, none⟩ (iv ((rdD f0 x52 z_Tile).E)), .cell ⟨g22, 3, none⟩ (iv ((rdD f0 x13 z_Tile).W))] (fun fb => by kernel_rfl) rfl ⟨hS66.cell 0 rfl 1 rfl, hS66.cell 2 rfl 3 rfl, trivial⟩ ?_
         refine WL.done rfl (WX.next ?_)
         rcases br_some hl58 with ⟨h67, hl58⟩ | ⟨h67, hl58⟩
         ·refine WC.condT2 (fun fb => by kernel_rfl) h67 ?_
          refine WC.seq (WC.region ?_)
          refine seg 1 [] [2] [(2, (bv false))] [] (fun fb => by kernel_rfl) rfl trivial ?_
          refine WL.done rfl (WX.next ?_)
          refine WC.ret ?_
          injection hl58 with hl58
          subst hl58
          injection hx50 with hx50
          subst hx50
          injection hl19 with hl19
          subst hl19
          injection hf with hf
          subst hf
          exact WX.blockR (WX.thenR (WX.thenR (WX.blockR (WX.thenR (WX.blockR (WX.thenR (WX.thenR (WX.blockR (WX.thenR (WX.ret_ [] (bv false) [] (fun fb => by kernel_rfl) trivial ⟨_, rfl, rfl, hS66.keep⟩))))))))))
         refine WC.condF2 (fun fb => by kernel_rfl) h67 ?_
         refine WC.skip ?_
         refine WX.blockN (WX.next ?_)
         refine WC.region ?_
         refine seg 2 [] [0, 1, 3, 4, 5, 15, 16, 17, 40, 41, 42] [(0, (pt ga)), (1, (pt gb)), (3, (.map (some g8))), (4, (iv x13)), (5, (pt g22)), (15, (sv Aa f0 ca)), (16, (iv (f0.length : Int))), (17, (iv x13)), (40, (sv Aa f0 ca)), (41, (iv (f0.length : Int))), (42, (iv (w64 (x52 + 1))))] [] (fun fb => by kernel_rfl) rfl trivial ?_
         refine WL.done rfl ?_
         exact WX.again k55 (Nat.lt_succ_self _) (w64 (x52 + 1)) [0, 1, 3, 4, 5, 15, 16, 17, 40, 41, 42] rfl ⟨(hS66.subR [0, 1, 2, 3, 4, 5, 6, 7]).sub [1, 2] (by decide), hl58⟩
        refine WC.condF2 (fun fb => by kernel_rfl) h59 ?_
        refine WC.exit ?_
        injection hl58 with hl58
        exact WX.thenX (WX.thenX (WX.blockHere (WX.to Kx53 () [0, 1, 3, 4, 5, 15, 16, 17] rfl ⟨(hS57.subR [0, 1, 2, 3, 4, 5, 6, 7]).sub [0, 1] (by decide), hl58.symm⟩)))
      rintro y71 w68 ⟨hS69, hq70⟩
      subst hq70
      have hx50 := sum_inr hx50
      injection hx50 with hx50
      exact WX.to Kx49 () [0, 1, 3, 4, 5, 15, 16, 17] rfl ⟨(hS69.subR [0, 1, 2, 3, 4, 5, 6, 7]).sub [0, 1] (by decide), hx50.symm⟩
     refine WC.condF2 (fun fb => by kernel_rfl) h51 ?_
     refine WC.skip ?_
     injection hx50 with hx50
     exact WX.to Kx49 () [0, 1, 3, 4, 5, 15, 16, 17] rfl ⟨(hS46.subR [0, 1, 2, 3, 4, 5, 6, 7]).sub [0, 1] (by decide), hx50.symm⟩
    rintro y75 w72 ⟨hS73, hq74⟩
    subst hq74
    have hl19 := sum_inr hl19
    refine WX.next ?_
    obtain ⟨h78, hl19⟩ := as_some hl19
    refine WC.regionD ([(2, ⟨g22, 3, none⟩, (iv ((rdD f0 x13 z_Tile).W))), (4, ⟨gb, 2, none⟩, (sv Ad f1.Factors cd)), (7, ((adr Ad).add ((x13).toNat * 2)), (iv ((rdD f1.Factors x13 z_Frac).Num))), (7, (((adr Ad).add ((x13).toNat * 2)).add 1), (iv ((rdD f1.Factors x13 z_Frac).Den)))], [0, 1, 2, 3, 4, 5, 6, 7], [[], [], [1], [], [3], [], [3, 4, 5], [3, 4, 5, 6], [0, 1, 2, 3, 4, 5, 6, 7]]) [[0, 1, 2, 3, 4, 5, 6, 7, 8]] (by kernel_rfl) (by kernel_rfl) (NoPanic.block (NoPanic.seq (NoPanic.seq (NoPanic.block (NoPanic.seq (NoPanic.body)))))) ?_
    have hS77 := hS73.drew
    revert hS77
    generalize World.drew w72 = w76
    intro hS77
    refine ⟨⟨hS77.cell 1 rfl 3 rfl, blk_cell (hS77.rd 2).1 2 rfl, rowR.cell (hS77.rd 5).1 z_Frac h78.1 h78.2 0 rfl, rowR.cell (hS77.rd 5).1 z_Frac h78.1 h78.2 1 rfl, trivial⟩, forallC ?_ (forallN)⟩
    refine segF 8 [.v (iv ((rdD f0 x13 z_Tile).W)), .v (sv Ad f1.Factors cd), .v (iv ((rdD f1.Factors x13 z_Frac).Num)), .v (iv ((rdD f1.Factors x13 z_Frac).Den))] [0, 1, 3, 15, 16, 17, 52, 54, 59] [(0, (pt ga)), (1, (pt gb)), (3, (.map (some g8))), (15, (sv Aa f0 ca)), (16, (iv (f0.length : Int))), (17, (iv x13)), (52, (.map (some g8))), (54, (iv ((rdD f0 x13 z_Tile).W))), (59, (.agg #[(iv ((rdD f1.Factors x13 z_Frac).Num)), (iv ((rdD f1.Factors x13 z_Frac).Den))]))] [.idx Ad x13 f1.Factors.length] [0, 1, 2, 3] [(2, ⟨g22, 3, none⟩, (iv ((rdD f0 x13 z_Tile).W))), (4, ⟨gb, 2, none⟩, (sv Ad f1.Factors cd)), (7, ((adr Ad).add ((x13).toNat * 2)), (iv ((rdD f1.Factors x13 z_Frac).Num))), (7, (((adr Ad).add ((x13).toNat * 2)).add 1), (iv ((rdD f1.Factors x13 z_Frac).Den)))] (fun fb => by kernel_rfl) rfl ⟨rowR.adr (hS77.rd 5).1 h78.1 h78.2, trivial⟩ rfl ?_
    refine WL.mapput hS77 0 (t := 42) (kT := 3) (eT := 36) (kE := (vI .i64)) (vE := (aggI ints_Frac)) (l := l11) rfl ((rdD f0 x13 z_Tile).W) (rdD f1.Factors x13 z_Frac) (fun fb => by kernel_rfl) weight_Check_2_key3 (by kernel_rfl) [1] (by decide) (by decide) (fun w79 hS80 => ?_)
    refine ⟨trivial, ?_⟩
    refine WL.done rfl ?_
    refine WX.blockN (WX.next ?_)
    refine WC.region ?_
    refine seg 2 [] [0, 1, 3, 15, 16, 17] [(0, (pt ga)), (1, (pt gb)), (3, (.map (some g8))), (15, (sv Aa f0 ca)), (16, (iv (f0.length : Int))), (17, (iv (w64 (x13 + 1))))] [] (fun fb => by kernel_rfl) rfl trivial ?_
    refine WL.done rfl ?_
    exact WX.again k16 (Nat.lt_succ_self _) (mput ((rdD f0 x13 z_Tile).W) (rdD f1.Factors x13 z_Frac) l11, w64 (x13 + 1)) [0, 1, 3, 15, 16, 17] rfl ⟨(hS80.subR [0, 1, 2, 3, 4, 5, 6, 7]).sub [0] (by decide), hl19⟩
   refine WC.condF2 (fun fb => by kernel_rfl) h20 ?_
   refine WC.exit ?_
   injection hl19 with hl19
   exact WX.thenX (WX.thenX (WX.blockHere (WX.to Kx14 l11 [0, 1, 3] rfl ⟨(hS18.subR [0, 1, 2, 3, 4, 5, 6, 7]).sub [0] (by decide), hl19.symm⟩)))
 rintro y84 w81 ⟨hS82, hq83⟩
 subst hq83
 have hf := sum_inr hf
 refine WX.next (WC.seq (WC.seq (WC.region ?_)))
 refine seg 3 [.v (sv Aa f0 ca)] [1, 3, 61, 62, 63] [(1, (pt gb)), (3, (.map (some g8))), (61, (sv Aa f0 ca)), (62, (iv (f0.length : Int))), (63, (iv 0))] [.cell ⟨ga, 0, none⟩ (sv Aa f0 ca)] (fun fb => by kernel_rfl) rfl ⟨blk_cell (hS82.rd 0).1 0 rfl, trivial⟩ ?_
 refine WL.done rfl (WX.next ?_)
 obtain ⟨x86, hx87, hf⟩ := bind_some hf
 refine WC.cutN (T := Unit) (fun t => []) (fun t w1 => St NoS w w1 [blk ga (.cells #[(sv Aa f0 ca)] 22 (0, 0)), rowR enc_Tile Aa ca f0, blk gb (.cells #[(sv Ab f1.Values cb), (sv Ac f1.Carries cc), (sv Ad f1.Factors cd), (sv Ae f1.Primes ce), (sv Af f1.Logs cf)] 26 (0, 0)), rowR enc_Frac Ab cb f1.Values, rowR enc_Frac Ac cc f1.Carries, rowR enc_Frac Ad cd f1.Factors, rowR encInt Ae ce f1.Primes, rowR encInt Af cf f1.Logs] [] ∧ x86 = .inr t) (fun Kx86 => ?_) ?_
 ·
  refine WC.block ?_
  refine WC.loop (T := Int) (fun t => [(1, (pt gb)), (3, (.map (some g8))), (61, (sv Aa f0 ca)), (62, (iv (f0.length : Int))), (63, (iv t))]) (fun n t w1 => St NoS w w1 [blk ga (.cells #[(sv Aa f0 ca)] 22 (0, 0)), rowR enc_Tile Aa ca f0, blk gb (.cells #[(sv Ab f1.Values cb), (sv Ac f1.Carries cc), (sv Ad f1.Factors cd), (sv Ae f1.Primes ce), (sv Af f1.Logs cf)] 26 (0, 0)), rowR enc_Frac Ab cb f1.Values, rowR enc_Frac Ac cc f1.Carries, rowR enc_Frac Ad cd f1.Factors, rowR encInt Ae ce f1.Primes, rowR encInt Af cf f1.Logs] [blk g8 (mapObj (vI .i64) (aggI ints_Frac) y84)] ∧ weight_Check_2.l2 n t f0 f1 y84 = some x86) k 0 [1, 3, 61, 62, 63] rfl ⟨(hS82.subR [0, 1, 2, 3, 4, 5, 6, 7]).sub [0] (by decide), hx87⟩ ?_
  rintro k88 x85 w89 ⟨hS90, hl91⟩
  cases k88 with
  | zero => rw [weight_Check_2.l2] at hl91; cases hl91
  | succ k88 =>
   rw [weight_Check_2.l2] at hl91
   refine WC.seq (WC.region ?_)
   refine seg 1 [] [1, 3, 61, 62, 63, 64] [(1, (pt gb)), (3, (.map (some g8))), (61, (sv Aa f0 ca)), (62, (iv (f0.length : Int))), (63, (iv x85)), (64, (bv (decide (x85 < (f0.length : Int)))))] [] (fun fb => by kernel_rfl) rfl trivial ?_
   refine WL.done rfl (WX.next (WC.seq ?_))
   rcases br_some hl91 with ⟨h92, hl91⟩ | ⟨h92, hl91⟩
   ·refine WC.condT2 (fun fb => by kernel_rfl) h92 ?_
    refine WC.skip (WX.next (WC.seq (WC.block (WC.seq (WC.region ?_)))))
    refine seg 1 [] [1, 3, 61, 62, 63, 65] [(1, (pt gb)), (3, (.map (some g8))), (61, (sv Aa f0 ca)), (62, (iv (f0.length : Int))), (63, (iv x85)), (65, (iv x85))] [] (fun fb => by kernel_rfl) rfl trivial ?_
    obtain ⟨h93, hl91⟩ := as_some hl91
    refine seg 3 [.v (iv ((rdD f0 x85 z_Tile).N)), .v (iv ((rdD f0 x85 z_Tile).E)), .v (iv ((rdD f0 x85 z_Tile).S)), .v (iv ((rdD f0 x85 z_Tile).W))] [1, 3, 61, 62, 63, 65, 67] [(1, (pt gb)), (3, (.map (some g8))), (61, (sv Aa f0 ca)), (62, (iv (f0.length : Int))), (63, (iv x85)), (65, (iv x85)), (67, (.agg #[(iv ((rdD f0 x85 z_Tile).N)), (iv ((rdD f0 x85 z_Tile).E)), (iv ((rdD f0 x85 z_Tile).S)), (iv ((rdD f0 x85 z_Tile).W))]))] [.idx Aa x85 f0.length, .cell ((adr Aa).add ((x85).toNat * 4)) (iv ((rdD f0 x85 z_Tile).N)), .cell (((adr Aa).add ((x85).toNat * 4)).add 1) (iv ((rdD f0 x85 z_Tile).E)), .cell (((adr Aa).add ((x85).toNat * 4)).add 2) (iv ((rdD f0 x85 z_Tile).S)), .cell (((adr Aa).add ((x85).toNat * 4)).add 3) (iv ((rdD f0 x85 z_Tile).W))] (fun fb => by kernel_rfl) rfl ⟨rowR.adr (hS90.rd 1).1 h93.1 h93.2, rowR.cell (hS90.rd 1).1 z_Tile h93.1 h93.2 0 rfl, rowR.cell (hS90.rd 1).1 z_Tile h93.1 h93.2 1 rfl, rowR.cell (hS90.rd 1).1 z_Tile h93.1 h93.2 2 rfl, rowR.cell (hS90.rd 1).1 z_Tile h93.1 h93.2 3 rfl, trivial⟩ ?_
    refine WL.new hS90 11 [] (fun g => (pt g)) (.cells #[(iv 0), (iv 0), (iv 0), (iv 0)] 39 (0, 0)) [] (fun fb g => by kernel_rfl) trivial (fun g94 w95 hS96 => ?_)
    refine ⟨trivial, ?_⟩
    refine seg 5 [] [1, 3, 10, 11, 61, 62, 63, 67] [(1, (pt gb)), (3, (.map (some g8))), (10, (iv x85)), (11, (pt g94)), (61, (sv Aa f0 ca)), (62, (iv (f0.length : Int))), (63, (iv x85)), (67, (.agg #[(iv ((rdD f0 x85 z_Tile).N)), (iv ((rdD f0 x85 z_Tile).E)), (iv ((rdD f0 x85 z_Tile).S)), (iv ((rdD f0 x85 z_Tile).W))]))] [] (fun fb => by kernel_rfl) rfl trivial ?_
    refine WL.store hS96 0 rfl [(0, (iv ((rdD f0 x85 z_Tile).N))), (1, (iv ((rdD f0 x85 z_Tile).E))), (2, (iv ((rdD f0 x85 z_Tile).S))), (3, (iv ((rdD f0 x85 z_Tile).W)))] #[(iv ((rdD f0 x85 z_Tile).N)), (iv ((rdD f0 x85 z_Tile).E)), (iv ((rdD f0 x85 z_Tile).S)), (iv ((rdD f0 x85 z_Tile).W))] (fun fb => by kernel_rfl) (by kernel_rfl) rfl [1] (by decide) (by decide) (fun w97 hS98 => ?_)
    refine ⟨trivial, ?_⟩
    refine WL.done rfl (WX.next (WC.seq (WC.region ?_)))
    refine seg 3 [.v (iv ((rdD f0 x85 z_Tile).E))] [1, 3, 10, 61, 62, 63, 69, 71] [(1, (pt gb)), (3, (.map (some g8))), (10, (iv x85)), (61, (sv Aa f0 ca)), (62, (iv (f0.length : Int))), (63, (iv x85)), (69, (.map (some g8))), (71, (iv ((rdD f0 x85 z_Tile).E)))] [.cell ⟨g94, 1, none⟩ (iv ((rdD f0 x85 z_Tile).E))] (fun fb => by kernel_rfl) rfl ⟨hS98.cell 0 rfl 1 rfl, trivial⟩ ?_
    refine WL.lookup (hS98.own 1).1 ((rdD f0 x85 z_Tile).E) (d := 72) (c := true) (t := 42) (kT := 3) (eT := 36) (z := z_Frac) (kE := (vI .i64)) (vE := (aggI ints_Frac)) (l := y84) (.tuple #[(.agg #[(iv ((mget ((rdD f0 x85 z_Tile).E) z_Frac y84).Num)), (iv ((mget ((rdD f0 x85 z_Tile).E) z_Frac y84).Den))]), (bv (mhas ((rdD f0 x85 z_Tile).E) y84))]) (fun fb => by kernel_rfl) weight_Check_2_key3 (by kernel_rfl) (fun _ => by kernel_rfl) rfl ?_
    refine ⟨trivial, ?_⟩
    refine seg 7 [] [1, 3, 10, 61, 62, 63, 73, 74] [(1, (pt gb)), (3, (.map (some g8))), (10, (iv x85)), (61, (sv Aa f0 ca)), (62, (iv (f0.length : Int))), (63, (iv x85)), (73, (.agg #[(iv ((mget ((rdD f0 x85 z_Tile).E) z_Frac y84).Num)), (iv ((mget ((rdD f0 x85 z_Tile).E) z_Frac y84).Den))])), (74, (bv (mhas ((rdD f0 x85 z_Tile).E) y84)))] [] (fun fb => by kernel_rfl) rfl trivial ?_
    refine WL.new hS98 12 [] (fun g => (pt g)) (.cells #[(iv 0), (iv 0)] 36 (0, 0)) [] (fun fb g => by kernel_rfl) trivial (fun g99 w100 hS101 => ?_)
    refine ⟨trivial, ?_⟩
    refine WL.store hS101 0 rfl [(0, (iv ((mget ((rdD f0 x85 z_Tile).E) z_Frac y84).Num))), (1, (iv ((mget ((rdD f0 x85 z_Tile).E) z_Frac y84).Den)))] #[(iv ((mget ((rdD f0 x85 z_Tile).E) z_Frac y84).Num)), (iv ((mget ((rdD f0 x85 z_Tile).E) z_Frac y84).Den))] (fun fb => by kernel_rfl) (by kernel_rfl) rfl [1, 2] (by decide) (by decide) (fun w102 hS103 => ?_)
    refine ⟨trivial, ?_⟩
    refine seg 10 [] [1, 3, 10, 12, 13, 61, 62, 63] [(1, (pt gb)), (3, (.map (some g8))), (10, (iv x85)), (12, (pt g99)), (13, (bv (mhas ((rdD f0 x85 z_Tile).E) y84))), (61, (sv Aa f0 ca)), (62, (iv (f0.length : Int))), (63, (iv x85))] [] (fun fb => by kernel_rfl) rfl trivial ?_
    refine WL.done rfl (WX.next (WC.seq ?_))
    obtain ⟨x104, hx105, hl91⟩ := bind_some hl91
    refine WC.cutN (T := Bool) (fun t => [(1, (pt gb)), (3, (.map (some g8))), (61, (sv Aa f0 ca)), (62, (iv (f0.length : Int))), (63, (iv x85)), (85, (bv t))]) (fun t w1 => St NoS w w1 [blk ga (.cells #[(sv Aa f0 ca)] 22 (0, 0)), rowR enc_Tile Aa ca f0, blk gb (.cells #[(sv Ab f1.Values cb), (sv Ac f1.Carries cc), (sv Ad f1.Factors cd), (sv Ae f1.Primes ce), (sv Af f1.Logs cf)] 26 (0, 0)), rowR enc_Frac Ab cb f1.Values, rowR enc_Frac Ac cc f1.Carries, rowR enc_Frac Ad cd f1.Factors, rowR encInt Ae ce f1.Primes, rowR encInt Af cf f1.Logs] [blk g8 (mapObj (vI .i64) (aggI ints_Frac) y84)] ∧ x104 = t) (fun Kx104 => ?_) ?_
    ·
     rcases br_some hx105 with ⟨h106, hx105⟩ | ⟨h106, hx105⟩
     ·
      obtain ⟨h109, hx105⟩ := as_some hx105
      refine WC.regionD ([(2, ⟨g99, 0, none⟩, (iv ((mget ((rdD f0 x85 z_Tile).E) z_Frac y84).Num))), (2, ⟨g99, 1, none⟩, (iv ((mget ((rdD f0 x85 z_Tile).E) z_Frac y84).Den))), (4, ⟨gb, 2, none⟩, (sv Ad f1.Factors cd)), (7, ((adr Ad).add ((x85).toNat * 2)), (iv ((rdD f1.Factors x85 z_Frac).Num))), (7, (((adr Ad).add ((x85).toNat * 2)).add 1), (iv ((rdD f1.Factors x85 z_Frac).Den)))], [0, 1, 2, 3, 4, 5, 6, 7, 9, 10], [[], [0], [0, 1], [0, 1], [0, 1, 3], [0, 1], [0, 1, 3, 4, 5], [0, 1, 3, 4, 5, 6], [0, 1, 2, 3, 4, 5, 6, 7], [0, 1, 2, 3, 4, 5, 6, 7, 8], [0, 1, 2, 3, 4, 5, 6, 7, 8, 9]]) [[0, 1, 2, 3, 4, 5, 6, 7, 8, 9, 10]] (by kernel_rfl) (by kernel_rfl) (NoPanic.seq (NoPanic.block (NoPanic.seq (NoPanic.seq (NoPanic.block (NoPanic.seq (NoPanic.body))))))) ?_
      have hS108 := hS103.drew
      revert hS108
      generalize World.drew w102 = w107
      intro hS108
      refine ⟨⟨hS108.cell 0 rfl 0 rfl, hS108.cell 0 rfl 1 rfl, blk_cell (hS108.rd 2).1 2 rfl, rowR.cell (hS108.rd 5).1 z_Frac h109.1 h109.2 0 rfl, rowR.cell (hS108.rd 5).1 z_Frac h109.1 h109.2 1 rfl, trivial⟩, forallC ?_ (forallN)⟩
      refine seg 2 [] [1, 3, 10, 12, 61, 62, 63, 76] [(1, (pt gb)), (3, (.map (some g8))), (10, (iv x85)), (12, (pt g99)), (61, (sv Aa f0 ca)), (62, (iv (f0.length : Int))), (63, (iv x85)), (76, (bv (mhas ((rdD f0 x85 z_Tile).E) y84)))] [] (fun fb => by kernel_rfl) rfl trivial ?_
      refine WL.setB 76 h106 rfl ?_
      refine segF 8 [.v (iv ((mget ((rdD f0 x85 z_Tile).E) z_Frac y84).Num)), .v (iv ((mget ((rdD f0 x85 z_Tile).E) z_Frac y84).Den)), .v (sv Ad f1.Factors cd), .v (iv ((rdD f1.Factors x85 z_Frac).Num)), .v (iv ((rdD f1.Factors x85 z_Frac).Den))] [1, 3, 61, 62, 63, 76, 77, 82] [(1, (pt gb)), (3, (.map (some g8))), (61, (sv Aa f0 ca)), (62, (iv (f0.length : Int))), (63, (iv x85)), (76, (bv true)), (77, (.agg #[(iv ((mget ((rdD f0 x85 z_Tile).E) z_Frac y84).Num)), (iv ((mget ((rdD f0 x85 z_Tile).E) z_Frac y84).Den))])), (82, (.agg #[(iv ((rdD f1.Factors x85 z_Frac).Num)), (iv ((rdD f1.Factors x85 z_Frac).Den))]))] [.idx Ad x85 f1.Factors.length] [0, 1, 2, 3, 4] [(2, ⟨g99, 0, none⟩, (iv ((mget ((rdD f0 x85 z_Tile).E) z_Frac y84).Num))), (2, ⟨g99, 1, none⟩, (iv ((mget ((rdD f0 x85 z_Tile).E) z_Frac y84).Den))), (4, ⟨gb, 2, none⟩, (sv Ad f1.Factors cd)), (7, ((adr Ad).add ((x85).toNat * 2)), (iv ((rdD f1.Factors x85 z_Frac).Num))), (7, (((adr Ad).add ((x85).toNat * 2)).add 1), (iv ((rdD f1.Factors x85 z_Frac).Den)))] (fun fb => by kernel_rfl) rfl ⟨rowR.adr (hS108.rd 5).1 h109.1 h109.2, trivial⟩ rfl ?_
      obtain ⟨t110, ht111, hx105⟩ := bind_some hx105
      refine WL.call (some 83) 13 #[(.agg #[(iv ((mget ((rdD f0 x85 z_Tile).E) z_Frac y84).Num)), (iv ((mget ((rdD f0 x85 z_Tile).E) z_Frac y84).Den))]), (.agg #[(iv ((rdD f1.Factors x85 z_Frac).Num)), (iv ((rdD f1.Factors x85 z_Frac).Den))])] (fun fb => by kernel_rfl) (weight_equal_calls (mget ((rdD f0 x85 z_Tile).E) z_Frac y84) (rdD f1.Factors x85 z_Frac) t110 _ ht111) (fun v w112 hR113 => ?_)
      obtain ⟨rfl, hk_⟩ := hR113
      have hS114 := hS108.keepN hk_
      refine ⟨trivial, ?_⟩
      refine seg 11 [] [1, 3, 61, 62, 63, 85] [(1, (pt gb)), (3, (.map (some g8))), (61, (sv Aa f0 ca)), (62, (iv (f0.length : Int))), (63, (iv x85)), (85, (bv (!t110)))] [] (fun fb => by kernel_rfl) rfl trivial ?_
      refine WL.done rfl ?_
      injection hx105 with hx105
      exact WX.to Kx104 (!t110) [1, 3, 61, 62, 63, 85] rfl ⟨(hS114.subR [0, 1, 2, 3, 4, 5, 6, 7]).sub [2] (by decide), hx105.symm⟩
     refine WC.regionD ([], [0, 1, 2, 3, 4, 5, 6, 7, 9, 10], [[], [0], [0, 1], [0, 1], [0, 1, 3], [0, 1], [0, 1, 3, 4, 5], [0, 1, 3, 4, 5, 6], [0, 1, 2, 3, 4, 5, 6, 7], [0, 1, 2, 3, 4, 5, 6, 7, 8], [0, 1, 2, 3, 4, 5, 6, 7, 8, 9]]) [[0, 1, 2, 3, 4, 5, 6, 7, 8, 9, 10]] (by kernel_rfl) (by kernel_rfl) (NoPanic.seq (NoPanic.block (NoPanic.seq (NoPanic.seq (NoPanic.block (NoPanic.seq (NoPanic.body))))))) ?_
     have hS116 := hS103.drew
     revert hS116
     generalize World.drew w102 = w115
     intro hS116
     refine ⟨trivial, forallC ?_ (forallN)⟩
     refine seg 2 [] [1, 3, 10, 12, 61, 62, 63, 76] [(1, (pt gb)), (3, (.map (some g8))), (10, (iv x85)), (12, (pt g99)), (61, (sv Aa f0 ca)), (62, (iv (f0.length : Int))), (63, (iv x85)), (76, (bv (mhas ((rdD f0 x85 z_Tile).E) y84)))] [] (fun fb => by kernel_rfl) rfl trivial ?_
     refine WL.setB 76 h106 rfl ?_
     refine seg 11 [] [1, 3, 61, 62, 63, 85] [(1, (pt gb)), (3, (.map (some g8))), (61, (sv Aa f0 ca)), (62, (iv (f0.length : Int))), (63, (iv x85)), (85, (bv false))] [] (fun fb => by kernel_rfl) rfl trivial ?_
     refine WL.done rfl ?_
     injection hx105 with hx105
     exact WX.to Kx104 false [1, 3, 61, 62, 63, 85] rfl ⟨(hS116.subR [0, 1, 2, 3, 4, 5, 6, 7]).sub [2] (by decide), hx105.symm⟩
    rintro y120 w117 ⟨hS118, hq119⟩
    subst hq119
    refine WX.next ?_
    rcases br_some hl91 with ⟨h121, hl91⟩ | ⟨h121, hl91⟩
    ·refine WC.condT2 (fun fb => by kernel_rfl) h121 ?_
     refine WC.seq (WC.region ?_)
     refine seg 1 [] [2] [(2, (bv false))] [] (fun fb => by kernel_rfl) rfl trivial ?_
     refine WL.done rfl (WX.next ?_)
     refine WC.ret ?_
     injection hl91 with hl91
     subst hl91
     injection hf with hf
     subst hf
     exact WX.blockR (WX.thenR (WX.thenR (WX.blockR (WX.thenR (WX.ret_ [] (bv false) [] (fun fb => by kernel_rfl) trivial ⟨_, rfl, rfl, hS118.keep⟩)))))
    refine WC.condF2 (fun fb => by kernel_rfl) h121 ?_
    refine WC.skip ?_
    refine WX.blockN (WX.next ?_)
    refine WC.region ?_
    refine seg 2 [] [1, 3, 61, 62, 63] [(1, (pt gb)), (3, (.map (some g8))), (61, (sv Aa f0 ca)), (62, (iv (f0.length : Int))), (63, (iv (w64 (x85 + 1))))] [] (fun fb => by kernel_rfl) rfl trivial ?_
    refine WL.done rfl ?_
    exact WX.again k88 (Nat.lt_succ_self _) (w64 (x85 + 1)) [1, 3, 61, 62, 63] rfl ⟨(hS118.subR [0, 1, 2, 3, 4, 5, 6, 7]).sub [0] (by decide), hl91⟩
   refine WC.condF2 (fun fb => by kernel_rfl) h92 ?_
   refine WC.exit ?_
   injection hl91 with hl91
   exact WX.thenX (WX.thenX (WX.blockHere (WX.to Kx86 () [] rfl ⟨(hS90.subR [0, 1, 2, 3, 4, 5, 6, 7]).sub [] (by decide), hl91.symm⟩)))
 rintro y125 w122 ⟨hS123, hq124⟩
 subst hq124
 have hf := sum_inr hf
 refine WX.next (WC.seq (WC.region ?_))
 refine seg 1 [] [2] [(2, (bv true))] [] (fun fb => by kernel_rfl) rfl trivial ?_
 refine WL.done rfl (WX.next ?_)
 refine WC.ret ?_
 injection hf with hf
 subst hf
 exact WX.ret_ [] (bv true) [] (fun fb => by kernel_rfl) trivial ⟨_, rfl, rfl, hS123.keep⟩
theorem slices_Clone_api_Tile_api_Tile_nil_calls (p0 : List Tile) (ca : Nat) (r : (List Tile)) (w : World) (hR0 : RO NoS w (rowR enc_Tile none ca ([] : List Tile))) (hf : slices_Clone_api_Tile_api_Tile_nil p0 = some r) :
  CallsR Tryd.prog 34 #[(sv none ([] : List Tile) ca)] w (fun v w' => ∃ (A1_ : Option Addr), ∃ (c1_ : Nat), v = (sv A1_ r c1_) ∧ St NoS w w' [] [rowO 39 enc_Tile A1_ c1_ r]) := by
 have hS : St NoS w w [rowR enc_Tile none ca ([] : List Tile)] [] := St.init (ro_cons hR0 (ro_nil _ _))
 refine enter 8 Tryd.func34 rfl Tryd.ntmps34 rfl ?_
 unfold slices_Clone_api_Tile_api_Tile_nil at hf
 refine WC.seq (WC.region ?_)
 refine seg 1 [] [0] [(0, (sv none ([] : List Tile) ca))] [] (fun fb => by kernel_rfl) rfl trivial ?_
 refine WL.done rfl (WX.next (WC.seq (WC.seq (WC.region ?_))))
 refine seg 2 [] [0, 4] [(0, (sv none ([] : List Tile) ca)), (4, (bv true))] [] (fun fb => by kernel_rfl) rfl trivial ?_
 refine WL.done rfl (WX.next ?_)
 refine WC.condT (fun fb => by kernel_rfl) ?_
 refine WC.seq (WC.region ?_)
 refine seg 1 [] [2] [(2, (.slice none 0 0))] [] (fun fb => by kernel_rfl) rfl trivial ?_
 refine WL.done rfl (WX.next ?_)
 refine WC.ret ?_
 have hS2 := hS.nilrow 39 enc_Tile
 injection hf with hf
 subst hf
 exact WX.thenR (WX.ret_ [] (sv none ([] : List Tile) 0) [] (fun fb => by kernel_rfl) trivial ⟨_, rfl, none, 0, rfl, (hS2.sub [0] (by decide)).noR⟩)
theorem slices_Clone_api_Tile_api_Tile_some_calls (p0 : List Tile) (aa : Addr) (ca : Nat) (r : (List Tile)) (w : World) (hR0 : RO NoS w (rowR enc_Tile (some aa) ca p0)) (hf : slices_Clone_api_Tile_api_Tile_some p0 = some r) :
  CallsR Tryd.prog 34 #[(sv (some aa) p0 ca)] w (fun v w' => ∃ (A1_ : Option Addr), ∃ (c1_ : Nat), v = (sv A1_ r c1_) ∧ St NoS w w' [] [rowO 39 enc_Tile A1_ c1_ r]) := by
 have hS : St NoS w w [rowR enc_Tile (some aa) ca p0] [] := St.init (ro_cons hR0 (ro_nil _ _))
 refine enter 8 Tryd.func34 rfl Tryd.ntmps34 rfl ?_
 unfold slices_Clone_api_Tile_api_Tile_some at hf
 refine WC.seq (WC.region ?_)
 refine seg 1 [] [0] [(0, (sv (some aa) p0 ca))] [] (fun fb => by kernel_rfl) rfl trivial ?_
 refine WL.done rfl (WX.next (WC.seq (WC.seq (WC.region ?_))))
 refine seg 2 [] [0, 4] [(0, (sv (some aa) p0 ca)), (4, (bv false))] [] (fun fb => by kernel_rfl) rfl trivial ?_
 refine WL.done rfl (WX.next ?_)
 refine WC.condF (fun fb => by kernel_rfl) ?_
 refine WC.skip (WX.next (WC.seq (WC.region ?_)))
 refine WL.new hS 5 [] (fun g => (.slice (some ⟨g, 0, none⟩) 0 0)) (.cells #[] 39 (0, 0)) [] (fun fb g => by kernel_rfl) trivial (fun g3 w4 hS5 => ?_)
 refine ⟨trivial, ?_⟩
 have hS6 := hS.go w4 [rowO 39 enc_Tile (some ⟨g3, 0, none⟩) 0 ([] : List Tile)] (hS5.map1 0 _ (fun h => rowO.ofBlk h rfl (Nat.le_of_ble_eq_true (by kernel_rfl))) (fun _ h => by obtain ⟨_, h1, h2⟩ := h; injection h1 with h1; subst h1; exact h2) [] (by decide) (by decide))
 refine seg 2 [] [5, 6] [(5, (sv (some ⟨g3, 0, none⟩) ([] : List Tile) 0)), (6, (sv (some aa) p0 ca))] [] (fun fb => by kernel_rfl) rfl trivial ?_
 obtain ⟨h7, hf⟩ := as_some hf
 refine WL.append hS6 0 (d := 7) (tS := 22) (z := (.agg #[(iv 0), (iv 0), (iv 0), (iv 0)])) (bytes := 32) (c2 := ca) rfl (fun fb => by kernel_rfl) (hS6.rd 0).1 (by kernel_rfl) (by kernel_rfl) rfl (by decide) h7 (by decide) [] (by decide) (by decide) (fun A8 c9 w10 hS11 => ?_)
 refine ⟨trivial, ?_⟩
 refine seg 4 [] [2] [(2, (sv A8 (([] : List Tile) ++ p0) c9))] [] (fun fb => by kernel_rfl) rfl trivial ?_
 refine WL.done rfl (WX.next ?_)
 refine WC.ret ?_
 injection hf with hf
 subst hf
 exact WX.ret_ [] (sv A8 (([] : List Tile) ++ p0) c9) [] (fun fb => by kernel_rfl) trivial ⟨_, rfl, A8, c9, rfl, (hS11.sub [0] (by decide)).noR⟩
theorem slices_Clone_api_Tile_api_Tile_calls (p0 : List Tile) (Aa : Option Addr) (ca : Nat) (r : List Tile) (w : World) (hR0 : RO NoS w (rowR enc_Tile Aa ca p0)) (hf : slices_Clone_api_Tile_api_Tile p0 = some r) :
  CallsR Tryd.prog 34 #[(sv Aa p0 ca)] w (fun v w' => ∃ (A1_ : Option Addr), ∃ (c1_ : Nat), v = (sv A1_ r c1_) ∧ St NoS w w' [] [rowO 39 enc_Tile A1_ c1_ r]) := by
 unfold slices_Clone_api_Tile_api_Tile at hf
 cases Aa with
 | none =>
  have h3 : p0 = [] := by
   cases p0 with
   | nil => rfl
   | cons x xs => exact absurd (hR0.1.1 0 x rfl).1 (by simp)
  subst h3
  rw [slices_Clone_api_Tile_api_Tile_some] at hf
  obtain ⟨h4, hf⟩ := as_some hf
  injection hf with hf; subst hf
  exact slices_Clone_api_Tile_api_Tile_nil_calls [] ca [] w hR0 rfl
 | some a => exact slices_Clone_api_Tile_api_Tile_some_calls p0 a ca r w hR0 hf
theorem weight_acyclic_1_key3 : KeyK Tryd.prog 3 (vI .i64) := KeyK.int (by kernel_rfl)
theorem weight_acyclic_1_calls (p0 : Tile) (f0 : List (Int × Bool)) (ga : Nat) (gm_f0 : Nat) (r : Bool) (w : World) (hR0 : RO NoS w (blk gm_f0 (mapObj (vI .i64) vB f0))) (hR1 : RO NoS w (blk ga (.cells #[(.map (some gm_f0))] 64 (0, 0)))) (hf : weight_acyclic_1 p0 f0 = some r) :
  CallsR Tryd.prog 35 #[(.agg #[(iv p0.N), (iv p0.E), (iv p0.S), (iv p0.W)]), (pt ga)] w (fun v w' => v = (bv r) ∧ Keeps NoS w w') := by
 have hS : St NoS w w [blk gm_f0 (mapObj (vI .i64) vB f0), blk ga (.cells #[(.map (some gm_f0))] 64 (0, 0))] [] := St.init (ro_cons hR0 (ro_cons hR1 (ro_nil _ _)))
 refine enter 9 Tryd.func35 rfl Tryd.ntmps35 rfl ?_
 unfold weight_acyclic_1 at hf
 refine WC.seq (WC.region ?_)
 refine WL.new hS 2 [] (fun g => (pt g)) (.cells #[(iv p0.N), (iv p0.E), (iv p0.S), (iv p0.W)] 39 (0, 0)) [] (fun fb g => by kernel_rfl) trivial (fun g2 w3 hS4 => ?_)
 refine ⟨trivial, ?_⟩
 refine seg 2 [] [1, 2] [(1, (pt ga)), (2, (pt g2))] [] (fun fb => by kernel_rfl) rfl trivial ?_
 refine WL.done rfl (WX.next (WC.seq (WC.region ?_)))
 refine seg 3 [.v (.map (some gm_f0)), .v (iv p0.E)] [4, 6] [(4, (.map (some gm_f0))), (6, (iv p0.E))] [.cell ⟨ga, 0, none⟩ (.map (some gm_f0)), .cell ⟨g2, 1, none⟩ (iv p0.E)] (fun fb => by kernel_rfl) rfl ⟨blk_cell (hS4.rd 1).1 0 rfl, hS4.cell 0 rfl 1 rfl, trivial⟩ ?_
 refine WL.lookup (hS4.rd 0).1 p0.E (d := 7) (c := false) (t := 64) (kT := 3) (eT := 4) (z := false) (kE := (vI .i64)) (vE := vB) (l := f0) (bv (mget p0.E false f0)) (fun fb => by kernel_rfl) weight_acyclic_1_key3 (by kernel_rfl) (fun _ => by kernel_rfl) rfl ?_
 refine ⟨trivial, ?_⟩
 refine seg 6 [] [3] [(3, (bv (!(mget p0.E false f0))))] [] (fun fb => by kernel_rfl) rfl trivial ?_
 refine WL.done rfl (WX.next ?_)
 refine WC.ret ?_
 injection hf with hf
 subst hf
 exact WX.ret_ [] (bv (!(mget p0.E false f0))) [] (fun fb => by kernel_rfl) trivial ⟨_, rfl, rfl, hS4.keep⟩
theorem slices_IndexFunc_api_Tile_api_Tile_with_weight_acyclic_1_calls (k : Nat) (p0 : List Tile) (p1_0 : List (Int × Bool)) (Aa : Option Addr) (ca : Nat) (ga : Nat) (gm_p1_0 : Nat) (r : Int) (w : World) (hR0 : RO NoS w (rowR enc_Tile Aa ca p0)) (hR1 : RO NoS w (blk gm_p1_0 (mapObj (vI .i64) vB p1_0))) (hR2 : RO NoS w (blk ga (.cells #[(.map (some gm_p1_0))] 64 (0, 0)))) (hf : slices_IndexFunc_api_Tile_api_Tile_with_weight_acyclic_1 k p0 p1_0 = some r) :
  CallsR Tryd.prog 46 #[(sv Aa p0 ca), (.func (.func 35) #[] #[(pt ga)])] w (fun v w' => v = (iv r) ∧ Keeps NoS w w') := by
 have hS : St NoS w w [rowR enc_Tile Aa ca p0, blk gm_p1_0 (mapObj (vI .i64) vB p1_0), blk ga (.cells #[(.map (some gm_p1_0))] 64 (0, 0))] [] := St.init (ro_cons hR0 (ro_cons hR1 (ro_cons hR2 (ro_nil _ _))))
 refine enter 19 Tryd.func46 rfl Tryd.ntmps46 rfl ?_
 unfold slices_IndexFunc_api_Tile_api_Tile_with_weight_acyclic_1 at hf
 refine WC.seq (WC.region ?_)
 refine seg 1 [] [0, 1] [(0, (sv Aa p0 ca)), (1, (.func (.func 35) #[] #[(pt ga)]))] [] (fun fb => by kernel_rfl) rfl trivial ?_
 refine WL.done rfl (WX.next (WC.seq (WC.seq (WC.region ?_))))
 refine seg 3 [] [0, 1, 7, 8] [(0, (sv Aa p0 ca)), (1, (.func (.func 35) #[] #[(pt ga)])), (7, (iv (p0.length : Int))), (8, (iv 0))] [] (fun fb => by kernel_rfl) rfl trivial ?_
 refine WL.done rfl (WX.next ?_)
 obtain ⟨x4, hx5, hf⟩ := bind_some hf
 refine WC.cutN (T := Unit) (fun t => []) (fun t w1 => St NoS w w1 [rowR enc_Tile Aa ca p0, blk gm_p1_0 (mapObj (vI .i64) vB p1_0), blk ga (.cells #[(.map (some gm_p1_0))] 64 (0, 0))] [] ∧ x4 = .inr t) (fun Kx4 => ?_) ?_
 ·
  refine WC.block ?_
  refine WC.loop (T := Int) (fun t => [(0, (sv Aa p0 ca)), (1, (.func (.func 35) #[] #[(pt ga)])), (7, (iv (p0.length : Int))), (8, (iv t))]) (fun n t w1 => St NoS w w1 [rowR enc_Tile Aa ca p0, blk gm_p1_0 (mapObj (vI .i64) vB p1_0), blk ga (.cells #[(.map (some gm_p1_0))] 64 (0, 0))] [] ∧ slices_IndexFunc_api_Tile_api_Tile_with_weight_acyclic_1.l0 n t p0 p1_0 = some x4) k 0 [0, 1, 7, 8] rfl ⟨(hS.subR [0, 1, 2]).sub [] (by decide), hx5⟩ ?_
  rintro k6 x3 w7 ⟨hS8, hl9⟩
  cases k6 with
  | zero => rw [slices_IndexFunc_api_Tile_api_Tile_with_weight_acyclic_1.l0] at hl9; cases hl9
  | succ k6 =>
   rw [slices_IndexFunc_api_Tile_api_Tile_with_weight_acyclic_1.l0] at hl9
   refine WC.seq (WC.region ?_)
   refine seg 1 [] [0, 1, 7, 8, 9] [(0, (sv Aa p0 ca)), (1, (.func (.func 35) #[] #[(pt ga)])), (7, (iv (p0.length : Int))), (8, (iv x3)), (9, (bv (decide (x3 < (p0.length : Int)))))] [] (fun fb => by kernel_rfl) rfl trivial ?_
   refine WL.done rfl (WX.next (WC.seq ?_))
   rcases br_some hl9 with ⟨h10, hl9⟩ | ⟨h10, hl9⟩
   ·refine WC.condT2 (fun fb => by kernel_rfl) h10 ?_
    refine WC.skip (WX.next (WC.seq (WC.block (WC.seq (WC.region ?_)))))
    refine seg 2 [] [0, 1, 5, 7, 8] [(0, (sv Aa p0 ca)), (1, (.func (.func 35) #[] #[(pt ga)])), (5, (iv x3)), (7, (iv (p0.length : Int))), (8, (iv x3))] [] (fun fb => by kernel_rfl) rfl trivial ?_
    refine WL.done rfl (WX.next (WC.seq (WC.region ?_)))
    refine seg 3 [] [0, 1, 5, 7, 8, 11, 12, 13] [(0, (sv Aa p0 ca)), (1, (.func (.func 35) #[] #[(pt ga)])), (5, (iv x3)), (7, (iv (p0.length : Int))), (8, (iv x3)), (11, (.func (.func 35) #[] #[(pt ga)])), (12, (sv Aa p0 ca)), (13, (iv x3))] [] (fun fb => by kernel_rfl) rfl trivial ?_
    obtain ⟨h11, hl9⟩ := as_some hl9
    refine seg 5 [.v (iv ((rdD p0 x3 z_Tile).N)), .v (iv ((rdD p0 x3 z_Tile).E)), .v (iv ((rdD p0 x3 z_Tile).S)), .v (iv ((rdD p0 x3 z_Tile).W))] [0, 1, 5, 7, 8, 11, 15] [(0, (sv Aa p0 ca)), (1, (.func (.func 35) #[] #[(pt ga)])), (5, (iv x3)), (7, (iv (p0.length : Int))), (8, (iv x3)), (11, (.func (.func 35) #[] #[(pt ga)])), (15, (.agg #[(iv ((rdD p0 x3 z_Tile).N)), (iv ((rdD p0 x3 z_Tile).E)), (iv ((rdD p0 x3 z_Tile).S)), (iv ((rdD p0 x3 z_Tile).W))]))] [.idx Aa x3 p0.length, .cell ((adr Aa).add ((x3).toNat * 4)) (iv ((rdD p0 x3 z_Tile).N)), .cell (((adr Aa).add ((x3).toNat * 4)).add 1) (iv ((rdD p0 x3 z_Tile).E)), .cell (((adr Aa).add ((x3).toNat * 4)).add 2) (iv ((rdD p0 x3 z_Tile).S)), .cell (((adr Aa).add ((x3).toNat * 4)).add 3) (iv ((rdD p0 x3 z_Tile).W))] (fun fb => by kernel_rfl) rfl ⟨rowR.adr (hS8.rd 0).1 h11.1 h11.2, rowR.cell (hS8.rd 0).1 z_Tile h11.1 h11.2 0 rfl, rowR.cell (hS8.rd 0).1 z_Tile h11.1 h11.2 1 rfl, rowR.cell (hS8.rd 0).1 z_Tile h11.1 h11.2 2 rfl, rowR.cell (hS8.rd 0).1 z_Tile h11.1 h11.2 3 rfl, trivial⟩ ?_
    obtain ⟨t12, ht13, hl9⟩ := bind_some hl9
    refine WL.call (some 16) 35 #[(.agg #[(iv ((rdD p0 x3 z_Tile).N)), (iv ((rdD p0 x3 z_Tile).E)), (iv ((rdD p0 x3 z_Tile).S)), (iv ((rdD p0 x3 z_Tile).W))]), (pt ga)] (fun fb => by kernel_rfl) (weight_acyclic_1_calls (rdD p0 x3 z_Tile) p1_0 ga gm_p1_0 t12 _ (hS8.rd 1) (hS8.rd 2) ht13) (fun v w14 hR15 => ?_)
    obtain ⟨rfl, hk_⟩ := hR15
    have hS16 := hS8.keepN hk_
    refine ⟨trivial, ?_⟩
    refine WL.done rfl (WX.next ?_)
    rcases br_some hl9 with ⟨h17, hl9⟩ | ⟨h17, hl9⟩
    ·refine WC.condT2 (fun fb => by kernel_rfl) h17 ?_
     refine WC.seq (WC.region ?_)
     refine seg 2 [] [4] [(4, (iv x3))] [] (fun fb => by kernel_rfl) rfl trivial ?_
     refine WL.done rfl (WX.next ?_)
     refine WC.ret ?_
     injection hl9 with hl9
     subst hl9
     injection hf with hf
     subst hf
     exact WX.blockR (WX.thenR (WX.thenR (WX.blockR (WX.thenR (WX.ret_ [] (iv x3) [] (fun fb => by kernel_rfl) trivial ⟨_, rfl, rfl, hS16.keep⟩)))))
    refine WC.condF2 (fun fb => by kernel_rfl) h17 ?_
    refine WC.skip ?_
    refine WX.blockN (WX.next ?_)
    refine WC.region ?_
    refine seg 2 [] [0, 1, 7, 8] [(0, (sv Aa p0 ca)), (1, (.func (.func 35) #[] #[(pt ga)])), (7, (iv (p0.length : Int))), (8, (iv (w64 (x3 + 1))))] [] (fun fb => by kernel_rfl) rfl trivial ?_
    refine WL.done rfl ?_
    exact WX.again k6 (Nat.lt_succ_self _) (w64 (x3 + 1)) [0, 1, 7, 8] rfl ⟨(hS16.subR [0, 1, 2]).sub [] (by decide), hl9⟩
   refine WC.condF2 (fun fb => by kernel_rfl) h10 ?_
   refine WC.exit ?_
   injection hl9 with hl9
   exact WX.thenX (WX.thenX (WX.blockHere (WX.to Kx4 () [] rfl ⟨(hS8.subR [0, 1, 2]).sub [] (by decide), hl9.symm⟩)))
 rintro y21 w18 ⟨hS19, hq20⟩
 subst hq20
 have hf := sum_inr hf
 refine WX.next (WC.seq (WC.region ?_))
 refine seg 1 [] [4] [(4, (iv (-1)))] [] (fun fb => by kernel_rfl) rfl trivial ?_
 refine WL.done rfl (WX.next ?_)
 refine WC.ret ?_
 injection hf with hf
 subst hf
 exact WX.ret_ [] (iv (-1)) [] (fun fb => by kernel_rfl) trivial ⟨_, rfl, rfl, hS19.keep⟩
theorem slices_DeleteFunc_api_Tile_api_Tile_with_weight_acyclic_1_calls (k : Nat) (p0 : List Tile) (p1_0 : List (Int × Bool)) (Aa : Option Addr) (ca : Nat) (ga : Nat) (gm_p1_0 : Nat) (r : (List Tile)) (w : World) (hR0 : RO (fpL [rowO 39 enc_Tile Aa ca p0]) w (blk gm_p1_0 (mapObj (vI .i64) vB p1_0))) (hR1 : RO (fpL [rowO 39 enc_Tile Aa ca p0]) w (blk ga (.cells #[(.map (some gm_p1_0))] 64 (0, 0)))) (hI : IoOK w [rowO 39 enc_Tile Aa ca p0]) (hf : slices_DeleteFunc_api_Tile_api_Tile_with_weight_acyclic_1 k p0 p1_0 = some r) :
  CallsR Tryd.prog 33 #[(sv Aa p0 ca), (.func (.func 35) #[] #[(pt ga)])] w (fun v w' => ∃ (A1_ : Option Addr), ∃ (c1_ : Nat), v = (sv A1_ r c1_) ∧ St (fpL [rowO 39 enc_Tile Aa ca p0]) w w' [] [rowO 39 enc_Tile A1_ c1_ r]) := by
 have hS : St (fpL [rowO 39 enc_Tile Aa ca p0]) w w [blk gm_p1_0 (mapObj (vI .i64) vB p1_0), blk ga (.cells #[(.map (some gm_p1_0))] 64 (0, 0))] [rowO 39 enc_Tile Aa ca p0] := St.initIO (ro_cons hR0 (ro_cons hR1 (ro_nil _ _))) hI
 refine enter 42 Tryd.func33 rfl Tryd.ntmps33 rfl ?_
 unfold slices_DeleteFunc_api_Tile_api_Tile_with_weight_acyclic_1 at hf
 refine WC.seq (WC.region ?_)
 refine seg 1 [] [0, 1] [(0, (sv Aa p0 ca)), (1, (.func (.func 35) #[] #[(pt ga)]))] [] (fun fb => by kernel_rfl) rfl trivial ?_
 refine WL.done rfl (WX.next (WC.seq (WC.region ?_)))
 refine seg 2 [] [0, 1, 8, 9] [(0, (sv Aa p0 ca)), (1, (.func (.func 35) #[] #[(pt ga)])), (8, (sv Aa p0 ca)), (9, (.func (.func 35) #[] #[(pt ga)]))] [] (fun fb => by kernel_rfl) rfl trivial ?_
 obtain ⟨t3, ht4, hf⟩ := bind_some hf
 refine WL.call (some 10) 46 #[(sv Aa p0 ca), (.func (.func 35) #[] #[(pt ga)])] (fun fb => by kernel_rfl) (slices_IndexFunc_api_Tile_api_Tile_with_weight_acyclic_1_calls _ p0 p1_0 Aa ca ga gm_p1_0 t3 _ (hS.ow 0).ofO (hS.rd 0) (hS.rd 1) ht4) (fun v w5 hR6 => ?_)
 obtain ⟨rfl, hk_⟩ := hR6
 have hS7 := hS.keepN hk_
 refine ⟨trivial, ?_⟩
 refine seg 4 [] [0, 1, 5] [(0, (sv Aa p0 ca)), (1, (.func (.func 35) #[] #[(pt ga)])), (5, (iv t3))] [] (fun fb => by kernel_rfl) rfl trivial ?_
 refine WL.done rfl (WX.next (WC.seq (WC.seq (WC.region ?_))))
 refine seg 2 [] [0, 1, 5, 12] [(0, (sv Aa p0 ca)), (1, (.func (.func 35) #[] #[(pt ga)])), (5, (iv t3)), (12, (bv (t3 == (-1))))] [] (fun fb => by kernel_rfl) rfl trivial ?_
 refine WL.done rfl (WX.next ?_)
 rcases br_some hf with ⟨h8, hf⟩ | ⟨h8, hf⟩
 ·refine WC.condT2 (fun fb => by kernel_rfl) h8 ?_
  refine WC.seq (WC.region ?_)
  refine seg 2 [] [4] [(4, (sv Aa p0 ca))] [] (fun fb => by kernel_rfl) rfl trivial ?_
  refine WL.done rfl (WX.next ?_)
  refine WC.ret ?_
  injection hf with hf
  subst hf
  exact WX.thenR (WX.ret_ [] (sv Aa p0 ca) [] (fun fb => by kernel_rfl) trivial ⟨_, rfl, Aa, ca, rfl, (hS7.sub [0] (by decide)).noR⟩)
 refine WC.condF2 (fun fb => by kernel_rfl) h8 ?_
 refine WC.skip (WX.next (WC.seq (WC.seq (WC.region ?_))))
 refine seg 3 [] [0, 1, 5, 6] [(0, (sv Aa p0 ca)), (1, (.func (.func 35) #[] #[(pt ga)])), (5, (iv t3)), (6, (iv (w64 (t3 + 1))))] [] (fun fb => by kernel_rfl) rfl trivial ?_
 refine WL.done rfl (WX.next ?_)
 obtain ⟨x16, hx17, hf⟩ := bind_some hf
 refine WC.cutN (T := ((List Tile) × Int) × (Option Addr) × Nat) (fun t => [(0, (sv t.2.1 t.1.1 t.2.2)), (5, (iv t.1.2))]) (fun t w1 => St (fpL [rowO 39 enc_Tile Aa ca p0]) w w1 [blk gm_p1_0 (mapObj (vI .i64) vB p1_0), blk ga (.cells #[(.map (some gm_p1_0))] 64 (0, 0))] [rowO 39 enc_Tile t.2.1 t.2.2 t.1.1] ∧ x16 = t.1) (fun Kx16 => ?_) ?_
 ·
  refine WC.block ?_
  refine WC.loop (T := ((List Tile) × Int × Int) × (Option Addr) × Nat) (fun t => [(0, (sv t.2.1 t.1.1 t.2.2)), (1, (.func (.func 35) #[] #[(pt ga)])), (5, (iv t.1.2.1)), (6, (iv t.1.2.2))]) (fun n t w1 => St (fpL [rowO 39 enc_Tile Aa ca p0]) w w1 [blk gm_p1_0 (mapObj (vI .i64) vB p1_0), blk ga (.cells #[(.map (some gm_p1_0))] 64 (0, 0))] [rowO 39 enc_Tile t.2.1 t.2.2 t.1.1] ∧ slices_DeleteFunc_api_Tile_api_Tile_with_weight_acyclic_1.l0 n t.1.1 t.1.2.1 t.1.2.2 p1_0 = some x16) k ((p0, t3, w64 (t3 + 1)), Aa, ca) [0, 1, 5, 6] rfl ⟨(hS7.subR [0, 1]).sub [0] (by decide), hx17⟩ ?_
  rintro k18 ⟨⟨l11, x12, x13⟩, A9, c10⟩ w19 ⟨hS20, hl21⟩
  cases k18 with
  | zero => rw [slices_DeleteFunc_api_Tile_api_Tile_with_weight_acyclic_1.l0] at hl21; cases hl21
  | succ k18 =>
   rw [slices_DeleteFunc_api_Tile_api_Tile_with_weight_acyclic_1.l0] at hl21
   refine WC.seq (WC.seq (WC.region ?_))
   refine seg 4 [] [0, 1, 5, 6, 19] [(0, (sv A9 l11 c10)), (1, (.func (.func 35) #[] #[(pt ga)])), (5, (iv x12)), (6, (iv x13)), (19, (bv (decide (x13 < (l11.length : Int)))))] [] (fun fb => by kernel_rfl) rfl trivial ?_
   refine WL.done rfl (WX.next ?_)
   rcases br_some hl21 with ⟨h22, hl21⟩ | ⟨h22, hl21⟩
   ·refine WC.condT2 (fun fb => by kernel_rfl) h22 ?_
    refine WC.skip (WX.next (WC.seq (WC.block (WC.seq (WC.region ?_)))))
    refine seg 2 [] [0, 1, 5, 6, 22, 23] [(0, (sv A9 l11 c10)), (1, (.func (.func 35) #[] #[(pt ga)])), (5, (iv x12)), (6, (iv x13)), (22, (sv A9 l11 c10)), (23, (iv x13))] [] (fun fb => by kernel_rfl) rfl trivial ?_
    obtain ⟨h23, hl21⟩ := as_some hl21
    refine seg 4 [.v (iv ((rdD l11 x13 z_Tile).N)), .v (iv ((rdD l11 x13 z_Tile).E)), .v (iv ((rdD l11 x13 z_Tile).S)), .v (iv ((rdD l11 x13 z_Tile).W))] [0, 1, 5, 6, 25] [(0, (sv A9 l11 c10)), (1, (.func (.func 35) #[] #[(pt ga)])), (5, (iv x12)), (6, (iv x13)), (25, (.agg #[(iv ((rdD l11 x13 z_Tile).N)), (iv ((rdD l11 x13 z_Tile).E)), (iv ((rdD l11 x13 z_Tile).S)), (iv ((rdD l11 x13 z_Tile).W))]))] [.idx A9 x13 l11.length, .cell ((adr A9).add ((x13).toNat * 4)) (iv ((rdD l11 x13 z_Tile).N)), .cell (((adr A9).add ((x13).toNat * 4)).add 1) (iv ((rdD l11 x13 z_Tile).E)), .cell (((adr A9).add ((x13).toNat * 4)).add 2) (iv ((rdD l11 x13 z_Tile).S)), .cell (((adr A9).add ((x13).toNat * 4)).add 3) (iv ((rdD l11 x13 z_Tile).W))] (fun fb => by kernel_rfl) rfl ⟨rowR.adr (rowO.rd (hS20.own 0).1) h23.1 h23.2, rowR.cell (rowO.rd (hS20.own 0).1) z_Tile h23.1 h23.2 0 rfl, rowR.cell (rowO.rd (hS20.own 0).1) z_Tile h23.1 h23.2 1 rfl, rowR.cell (rowO.rd (hS20.own 0).1) z_Tile h23.1 h23.2 2 rfl, rowR.cell (rowO.rd (hS20.own 0).1) z_Tile h23.1 h23.2 3 rfl, trivial⟩ ?_
    refine WL.new hS20 7 [] (fun g => (pt g)) (.cells #[(iv 0), (iv 0), (iv 0), (iv 0)] 39 (0, 0)) [] (fun fb g => by kernel_rfl) trivial (fun g24 w25 hS26 => ?_)
    refine ⟨trivial, ?_⟩
    refine WL.store hS26 0 rfl [(0, (iv ((rdD l11 x13 z_Tile).N))), (1, (iv ((rdD l11 x13 z_Tile).E))), (2, (iv ((rdD l11 x13 z_Tile).S))), (3, (iv ((rdD l11 x13 z_Tile).W)))] #[(iv ((rdD l11 x13 z_Tile).N)), (iv ((rdD l11 x13 z_Tile).E)), (iv ((rdD l11 x13 z_Tile).S)), (iv ((rdD l11 x13 z_Tile).W))] (fun fb => by kernel_rfl) (by kernel_rfl) rfl [1] (by decide) (by decide) (fun w27 hS28 => ?_)
    refine ⟨trivial, ?_⟩
    refine WL.done rfl (WX.next (WC.seq (WC.region ?_)))
    refine seg 2 [.v (iv ((rdD l11 x13 z_Tile).N)), .v (iv ((rdD l11 x13 z_Tile).E)), .v (iv ((rdD l11 x13 z_Tile).S)), .v (iv ((rdD l11 x13 z_Tile).W))] [0, 1, 5, 6, 7, 26, 27] [(0, (sv A9 l11 c10)), (1, (.func (.func 35) #[] #[(pt ga)])), (5, (iv x12)), (6, (iv x13)), (7, (pt g24)), (26, (.func (.func 35) #[] #[(pt ga)])), (27, (.agg #[(iv ((rdD l11 x13 z_Tile).N)), (iv ((rdD l11 x13 z_Tile).E)), (iv ((rdD l11 x13 z_Tile).S)), (iv ((rdD l11 x13 z_Tile).W))]))] [.cell ⟨g24, 0, none⟩ (iv ((rdD l11 x13 z_Tile).N)), .cell ⟨g24, 1, none⟩ (iv ((rdD l11 x13 z_Tile).E)), .cell ⟨g24, 2, none⟩ (iv ((rdD l11 x13 z_Tile).S)), .cell ⟨g24, 3, none⟩ (iv ((rdD l11 x13 z_Tile).W))] (fun fb => by kernel_rfl) rfl ⟨hS28.cell 0 rfl 0 rfl, hS28.cell 0 rfl 1 rfl, hS28.cell 0 rfl 2 rfl, hS28.cell 0 rfl 3 rfl, trivial⟩ ?_
    obtain ⟨t29, ht30, hl21⟩ := bind_some hl21
    refine WL.call (some 28) 35 #[(.agg #[(iv ((rdD l11 x13 z_Tile).N)), (iv ((rdD l11 x13 z_Tile).E)), (iv ((rdD l11 x13 z_Tile).S)), (iv ((rdD l11 x13 z_Tile).W))]), (pt ga)] (fun fb => by kernel_rfl) (weight_acyclic_1_calls (rdD l11 x13 z_Tile) p1_0 ga gm_p1_0 t29 _ (hS28.rd 0) (hS28.rd 1) ht30) (fun v w31 hR32 => ?_)
    obtain ⟨rfl, hk_⟩ := hR32
    have hS34 := hS28.keepN hk_
    refine ⟨trivial, ?_⟩
    refine seg 4 [] [0, 1, 5, 6, 7, 29] [(0, (sv A9 l11 c10)), (1, (.func (.func 35) #[] #[(pt ga)])), (5, (iv x12)), (6, (iv x13)), (7, (pt g24)), (29, (bv (!t29)))] [] (fun fb => by kernel_rfl) rfl trivial ?_
    refine WL.done rfl (WX.next ?_)
    obtain ⟨x37, hx38, hl21⟩ := bind_some hl21
    refine WC.cutN (T := ((List Tile) × Int) × (Option Addr) × Nat) (fun t => [(0, (sv t.2.1 t.1.1 t.2.2)), (1, (.func (.func 35) #[] #[(pt ga)])), (5, (iv t.1.2)), (6, (iv x13))]) (fun t w1 => St (fpL [rowO 39 enc_Tile Aa ca p0]) w w1 [blk gm_p1_0 (mapObj (vI .i64) vB p1_0), blk ga (.cells #[(.map (some gm_p1_0))] 64 (0, 0))] [rowO 39 enc_Tile t.2.1 t.2.2 t.1.1] ∧ x37 = t.1) (fun Kx37 => ?_) ?_
    ·
     rcases br_some hx38 with ⟨h39, hx38⟩ | ⟨h39, hx38⟩
     ·refine WC.condT2 (fun fb => by kernel_rfl) h39 ?_
      refine WC.seq (WC.region ?_)
      refine seg 3 [.v (iv ((rdD l11 x13 z_Tile).N)), .v (iv ((rdD l11 x13 z_Tile).E)), .v (iv ((rdD l11 x13 z_Tile).S)), .v (iv ((rdD l11 x13 z_Tile).W))] [0, 1, 5, 6, 30, 31, 32] [(0, (sv A9 l11 c10)), (1, (.func (.func 35) #[] #[(pt ga)])), (5, (iv x12)), (6, (iv x13)), (30, (sv A9 l11 c10)), (31, (iv x12)), (32, (.agg #[(iv ((rdD l11 x13 z_Tile).N)), (iv ((rdD l11 x13 z_Tile).E)), (iv ((rdD l11 x13 z_Tile).S)), (iv ((rdD l11 x13 z_Tile).W))]))] [.cell ⟨g24, 0, none⟩ (iv ((rdD l11 x13 z_Tile).N)), .cell ⟨g24, 1, none⟩ (iv ((rdD l11 x13 z_Tile).E)), .cell ⟨g24, 2, none⟩ (iv ((rdD l11 x13 z_Tile).S)), .cell ⟨g24, 3, none⟩ (iv ((rdD l11 x13 z_Tile).W))] (fun fb => by kernel_rfl) rfl ⟨hS34.cell 0 rfl 0 rfl, hS34.cell 0 rfl 1 rfl, hS34.cell 0 rfl 2 rfl, hS34.cell 0 rfl 3 rfl, trivial⟩ ?_
      obtain ⟨h40, hx38⟩ := as_some hx38
      refine seg 4 [] [0, 1, 5, 6, 32, 33] [(0, (sv A9 l11 c10)), (1, (.func (.func 35) #[] #[(pt ga)])), (5, (iv x12)), (6, (iv x13)), (32, (.agg #[(iv ((rdD l11 x13 z_Tile).N)), (iv ((rdD l11 x13 z_Tile).E)), (iv ((rdD l11 x13 z_Tile).S)), (iv ((rdD l11 x13 z_Tile).W))])), (33, (.pointer (some ((adr A9).add ((x12).toNat * 4)))))] [.idx A9 x12 l11.length] (fun fb => by kernel_rfl) rfl ⟨rowR.adr (rowO.rd (hS34.own 1).1) h40.1 h40.2, trivial⟩ ?_
      refine WL.storeRow hS34 1 rfl (x12) ((rdD l11 x13 z_Tile)) (z_Tile) [(0, (iv ((rdD l11 x13 z_Tile).N))), (1, (iv ((rdD l11 x13 z_Tile).E))), (2, (iv ((rdD l11 x13 z_Tile).S))), (3, (iv ((rdD l11 x13 z_Tile).W)))] (fun fb => by kernel_rfl) h40.1 h40.2 (by kernel_rfl) rfl [0] (by decide) (by decide) (fun w41 hS42 => ?_)
      refine ⟨trivial, ?_⟩
      refine WL.reE [0, 1, 5, 6] [(0, (.slice A9 l11.length c10)), (1, (.func (.func 35) #[] #[(pt ga)])), (5, (iv x12)), (6, (iv x13))] [(0, (.slice A9 (l11.set (x12).toNat (rdD l11 x13 z_Tile)).length c10)), (1, (.func (.func 35) #[] #[(pt ga)])), (5, (iv x12)), (6, (iv x13))] rfl (by simp only [List.length_set]) ?_
      refine WL.done rfl (WX.next (WC.region ?_))
      refine seg 3 [] [0, 1, 5, 6] [(0, (sv A9 (l11.set (x12).toNat (rdD l11 x13 z_Tile)) c10)), (1, (.func (.func 35) #[] #[(pt ga)])), (5, (iv (w64 (x12 + 1)))), (6, (iv x13))] [] (fun fb => by kernel_rfl) rfl trivial ?_
      refine WL.done rfl ?_
      injection hx38 with hx38
      exact WX.to Kx37 ((l11.set (x12).toNat (rdD l11 x13 z_Tile), w64 (x12 + 1)), A9, c10) [0, 1, 5, 6] rfl ⟨(hS42.subR [0, 1]).sub [0] (by decide), hx38.symm⟩
     refine WC.condF2 (fun fb => by kernel_rfl) h39 ?_
     refine WC.skip ?_
     injection hx38 with hx38
     exact WX.to Kx37 ((l11, x12), A9, c10) [0, 1, 5, 6] rfl ⟨(hS34.subR [0, 1]).sub [1] (by decide), hx38.symm⟩
    rintro ⟨y46, A35, c36⟩ w43 ⟨hS44, hq45⟩
    subst hq45
    refine WX.blockN (WX.next ?_)
    refine WC.region ?_
    refine seg 3 [] [0, 1, 5, 6] [(0, (sv A35 x37.1 c36)), (1, (.func (.func 35) #[] #[(pt ga)])), (5, (iv x37.2)), (6, (iv (w64 (x13 + 1))))] [] (fun fb => by kernel_rfl) rfl trivial ?_
    refine WL.done rfl ?_
    exact WX.again k18 (Nat.lt_succ_self _) ((x37.1, x37.2, w64 (x13 + 1)), A35, c36) [0, 1, 5, 6] rfl ⟨(hS44.subR [0, 1]).sub [0] (by decide), hl21⟩
   refine WC.condF2 (fun fb => by kernel_rfl) h22 ?_
   refine WC.exit ?_
   injection hl21 with hl21
   exact WX.thenX (WX.thenX (WX.blockHere (WX.to Kx16 ((l11, x12), A9, c10) [0, 5] rfl ⟨(hS20.subR [0, 1]).sub [0] (by decide), hl21.symm⟩)))
 rintro ⟨y50, A14, c15⟩ w47 ⟨hS48, hq49⟩
 subst hq49
 refine WX.next (WC.seq (WC.region ?_))
 refine seg 2 [] [0, 5, 36, 37] [(0, (sv A14 x16.1 c15)), (5, (iv x16.2)), (36, (sv A14 x16.1 c15)), (37, (iv x16.2))] [] (fun fb => by kernel_rfl) rfl trivial ?_
 obtain ⟨h51, hf⟩ := as_some hf
 refine seg 3 [] [0, 5, 38] [(0, (sv A14 x16.1 c15)), (5, (iv x16.2)), (38, (.slice (subA A14 c15 x16.2.toNat 4) ((x16.1.length : Int).toNat - x16.2.toNat) (c15 - x16.2.toNat)))] [.idx (some ⟨0, 0, none⟩) x16.2 ((x16.1.length : Int).toNat + 1), .idx (some ⟨0, 0, none⟩) (x16.1.length : Int) (c15 + 1)] (fun fb => by kernel_rfl) rfl ⟨cut1 h51.1 h51.2.1, cut2 h51.1 h51.2.1 h51.2.2 (rowO.rd (hS48.own 0).1).2, trivial⟩ ?_
 refine WL.reE [0, 5, 38] [(0, (.slice A14 x16.1.length c15)), (5, (iv x16.2)), (38, (.slice (subA A14 c15 x16.2.toNat 4) ((x16.1.length : Int).toNat - x16.2.toNat) (c15 - x16.2.toNat)))] [(0, (.slice A14 x16.1.length c15)), (5, (iv x16.2)), (38, (.slice (subA A14 c15 x16.2.toNat 4) (cut x16.1 x16.2 (x16.1.length : Int)).length (c15 - x16.2.toNat)))] rfl (by rw [cut_length h51.1 h51.2.1 h51.2.2]) ?_
 refine WL.clearV hS48 0 (tS := 22) (z := (.agg #[(iv 0), (iv 0), (iv 0), (iv 0)])) rfl x16.2 (fun fb => by kernel_rfl) h51.1 h51.2.1 (by kernel_rfl) (fun w => by kernel_rfl) (by kernel_rfl) (by kernel_rfl) (by decide) [] (by decide) (by decide) (fun w52 hS53 => ?_)
 refine ⟨trivial, ?_⟩
 refine WL.done rfl (WX.next (WC.seq (WC.region ?_)))
 refine seg 2 [] [39, 40] [(39, (sv A14 x16.1 c15)), (40, (iv x16.2))] [] (fun fb => by kernel_rfl) rfl trivial ?_
 refine seg 3 [] [41] [(41, (.slice (subA A14 c15 (0 : Int).toNat 4) (x16.2.toNat - (0 : Int).toNat) (c15 - (0 : Int).toNat)))] [.idx (some ⟨0, 0, none⟩) 0 (x16.2.toNat + 1), .idx (some ⟨0, 0, none⟩) x16.2 (c15 + 1)] (fun fb => by kernel_rfl) rfl ⟨cut1 (Int.le_refl 0) h51.1, cut2 (Int.le_refl 0) h51.1 (take_le (xs := x16.1) h51.1 h51.2.1) (rowO.rd (hS53.own 0).1).2, trivial⟩ ?_
 refine WL.reE [41] [(41, (.slice (subA A14 c15 (0 : Int).toNat 4) (x16.2.toNat - (0 : Int).toNat) (c15 - (0 : Int).toNat)))] [(41, (.slice A14 (x16.1.take x16.2.toNat).length c15))] rfl (by rw [hdr_take (xs := x16.1) (hS53.own 0).1 h51.1 h51.2.1]) ?_
 refine seg 4 [] [4] [(4, (sv A14 (x16.1.take x16.2.toNat) c15))] [] (fun fb => by kernel_rfl) rfl trivial ?_
 refine WL.done rfl (WX.next ?_)
 refine WC.ret ?_
 injection hf with hf
 subst hf
 exact WX.ret_ [] (sv A14 (x16.1.take x16.2.toNat) c15) [] (fun fb => by kernel_rfl) trivial ⟨_, rfl, A14, c15, rfl, (hS53.sub [0] (by decide)).noR⟩
theorem weight_acyclic_key3 : KeyK Tryd.prog 3 (vI .i64) := KeyK.int (by kernel_rfl)
theorem weight_acyclic_calls (k : Nat) (p0 : List Tile) (Aa : Option Addr) (ca : Nat) (r : Bool) (w : World) (hR0 : RO NoS w (rowR enc_Tile Aa ca p0)) (hf : weight_acyclic k p0 = some r) :
  CallsR Tryd.prog 15 #[(sv Aa p0 ca)] w (fun v w' => v = (bv r) ∧ Keeps NoS w w') := by
 have hS : St NoS w w [rowR enc_Tile Aa ca p0] [] := St.init (ro_cons hR0 (ro_nil _ _))
 refine enter 31 Tryd.func15 rfl Tryd.ntmps15 rfl ?_
 unfold weight_acyclic at hf
 refine WC.seq (WC.region ?_)
 refine seg 1 [] [0] [(0, (sv Aa p0 ca))] [] (fun fb => by kernel_rfl) rfl trivial ?_
 refine WL.done rfl (WX.next (WC.seq ?_))
 obtain ⟨x7, hx8, hf⟩ := bind_some hf
 refine WC.cutN (T := Unit) (fun t => []) (fun t w1 => St NoS w w1 [rowR enc_Tile Aa ca p0] [] ∧ x7 = .inr t) (fun Kx7 => ?_) ?_
 ·
  refine WC.block ?_
  refine WC.loop (T := (List Tile) × (Option Addr) × Nat) (fun t => [(0, (sv t.2.1 t.1 t.2.2))]) (fun n t w1 => St NoS w w1 [rowR enc_Tile t.2.1 t.2.2 t.1, rowR enc_Tile Aa ca p0] [] ∧ weight_acyclic.l0 n t.1 = some x7) k (p0, Aa, ca) [0] rfl ⟨(hS.subR [0, 0]).sub [] (by decide), hx8⟩ ?_
  rintro k9 ⟨l6, A4, c5⟩ w10 ⟨hS11, hl12⟩
  cases k9 with
  | zero => rw [weight_acyclic.l0] at hl12; cases hl12
  | succ k9 =>
   rw [weight_acyclic.l0] at hl12
   refine WC.seq (WC.seq (WC.region ?_))
   refine seg 3 [] [0, 9] [(0, (sv A4 l6 c5)), (9, (bv (decide ((l6.length : Int) > 0))))] [] (fun fb => by kernel_rfl) rfl trivial ?_
   refine WL.done rfl (WX.next ?_)
   rcases br_some hl12 with ⟨h13, hl12⟩ | ⟨h13, hl12⟩
   ·refine WC.condT2 (fun fb => by kernel_rfl) h13 ?_
    refine WC.skip (WX.next (WC.block (WC.seq (WC.region ?_))))
    refine WL.new hS11 10 [] (fun g => (.map (some g))) (mapObj (vI .i64) vB ([] : List (Int × Bool))) [] (fun fb g => by kernel_rfl) trivial (fun g14 w16 hS17 => ?_)
    refine ⟨trivial, ?_⟩
    refine WL.new hS17 3 [] (fun g => (pt g)) (.cells #[(.map none)] 64 (0, 0)) [] (fun fb g => by kernel_rfl) trivial (fun g18 w19 hS20 => ?_)
    refine ⟨trivial, ?_⟩
    refine WL.store hS20 0 rfl [(0, (.map (some g14)))] #[(.map (some g14))] (fun fb => by kernel_rfl) (by kernel_rfl) rfl [1] (by decide) (by decide) (fun w21 hS22 => ?_)
    refine ⟨trivial, ?_⟩
    refine WL.done rfl (WX.next (WC.seq (WC.seq (WC.region ?_))))
    refine seg 3 [] [0, 3, 11, 12, 13] [(0, (sv A4 l6 c5)), (3, (pt g18)), (11, (sv A4 l6 c5)), (12, (iv (l6.length : Int))), (13, (iv 0))] [] (fun fb => by kernel_rfl) rfl trivial ?_
    refine WL.done rfl (WX.next ?_)
    obtain ⟨x25, hx26, hl12⟩ := bind_some hl12
    refine WC.cutN (T := (List (Int × Bool))) (fun t => [(0, (sv A4 l6 c5)), (3, (pt g18))]) (fun t w1 => St NoS w w1 [rowR enc_Tile A4 c5 l6, rowR enc_Tile Aa ca p0] [blk g18 (.cells #[(.map (some g14))] 64 (0, 0)), blk g14 (mapObj (vI .i64) vB t)] ∧ x25 = t) (fun Kx25 => ?_) ?_
    ·
     refine WC.block ?_
     refine WC.loop (T := (List (Int × Bool)) × Int) (fun t => [(0, (sv A4 l6 c5)), (3, (pt g18)), (11, (sv A4 l6 c5)), (12, (iv (l6.length : Int))), (13, (iv t.2))]) (fun n t w1 => St NoS w w1 [rowR enc_Tile A4 c5 l6, rowR enc_Tile Aa ca p0] [blk g18 (.cells #[(.map (some g14))] 64 (0, 0)), blk g14 (mapObj (vI .i64) vB t.1)] ∧ weight_acyclic.l1 n t.1 t.2 l6 = some x25) k9 (([] : List (Int × Bool)), 0) [0, 3, 11, 12, 13] rfl ⟨(hS22.subR [0, 1]).sub [0, 1] (by decide), hx26⟩ ?_
     rintro k27 ⟨l23, x24⟩ w28 ⟨hS29, hl30⟩
     cases k27 with
     | zero => rw [weight_acyclic.l1] at hl30; cases hl30
     | succ k27 =>
      rw [weight_acyclic.l1] at hl30
      refine WC.seq (WC.region ?_)
      refine seg 1 [] [0, 3, 11, 12, 13, 14] [(0, (sv A4 l6 c5)), (3, (pt g18)), (11, (sv A4 l6 c5)), (12, (iv (l6.length : Int))), (13, (iv x24)), (14, (bv (decide (x24 < (l6.length : Int)))))] [] (fun fb => by kernel_rfl) rfl trivial ?_
      refine WL.done rfl (WX.next (WC.seq ?_))
      rcases br_some hl30 with ⟨h31, hl30⟩ | ⟨h31, hl30⟩
      ·refine WC.condT2 (fun fb => by kernel_rfl) h31 ?_
       refine WC.skip (WX.next (WC.seq (WC.block (WC.seq (WC.region ?_)))))
       obtain ⟨h32, hl30⟩ := as_some hl30
       refine seg 2 [.v (iv ((rdD l6 x24 z_Tile).N)), .v (iv ((rdD l6 x24 z_Tile).E)), .v (iv ((rdD l6 x24 z_Tile).S)), .v (iv ((rdD l6 x24 z_Tile).W))] [0, 3, 11, 12, 13, 16] [(0, (sv A4 l6 c5)), (3, (pt g18)), (11, (sv A4 l6 c5)), (12, (iv (l6.length : Int))), (13, (iv x24)), (16, (.agg #[(iv ((rdD l6 x24 z_Tile).N)), (iv ((rdD l6 x24 z_Tile).E)), (iv ((rdD l6 x24 z_Tile).S)), (iv ((rdD l6 x24 z_Tile).W))]))] [.idx A4 x24 l6.length, .cell ((adr A4).add ((x24).toNat * 4)) (iv ((rdD l6 x24 z_Tile).N)), .cell (((adr A4).add ((x24).toNat * 4)).add 1) (iv ((rdD l6 x24 z_Tile).E)), .cell (((adr A4).add ((x24).toNat * 4)).add 2) (iv ((rdD l6 x24 z_Tile).S)), .cell (((adr A4).add ((x24).toNat * 4)).add 3) (iv ((rdD l6 x24 z_Tile).W))] (fun fb => by kernel_rfl) rfl ⟨rowR.adr (hS29.rd 0).1 h32.1 h32.2, rowR.cell (hS29.rd 0).1 z_Tile h32.1 h32.2 0 rfl, rowR.cell (hS29.rd 0).1 z_Tile h32.1 h32.2 1 rfl, rowR.cell (hS29.rd 0).1 z_Tile h32.1 h32.2 2 rfl, rowR.cell (hS29.rd 0).1 z_Tile h32.1 h32.2 3 rfl, trivial⟩ ?_
       refine WL.new hS29 5 [] (fun g => (pt g)) (.cells #[(iv 0), (iv 0), (iv 0), (iv 0)] 39 (0, 0)) [] (fun fb g => by kernel_rfl) trivial (fun g33 w34 hS35 => ?_)
       refine ⟨trivial, ?_⟩
       refine WL.store hS35 0 rfl [(0, (iv ((rdD l6 x24 z_Tile).N))), (1, (iv ((rdD l6 x24 z_Tile).E))), (2, (iv ((rdD l6 x24 z_Tile).S))), (3, (iv ((rdD l6 x24 z_Tile).W)))] #[(iv ((rdD l6 x24 z_Tile).N)), (iv ((rdD l6 x24 z_Tile).E)), (iv ((rdD l6 x24 z_Tile).S)), (iv ((rdD l6 x24 z_Tile).W))] (fun fb => by kernel_rfl) (by kernel_rfl) rfl [1, 2] (by decide) (by decide) (fun w36 hS37 => ?_)
       refine ⟨trivial, ?_⟩
       refine WL.done rfl (WX.next (WC.region ?_))
       refine seg 3 [.v (.map (some g14)), .v (iv ((rdD l6 x24 z_Tile).W))] [0, 3, 11, 12, 13, 17, 19] [(0, (sv A4 l6 c5)), (3, (pt g18)), (11, (sv A4 l6 c5)), (12, (iv (l6.length : Int))), (13, (iv x24)), (17, (.map (some g14))), (19, (iv ((rdD l6 x24 z_Tile).W)))] [.cell ⟨g18, 0, none⟩ (.map (some g14)), .cell ⟨g33, 3, none⟩ (iv ((rdD l6 x24 z_Tile).W))] (fun fb => by kernel_rfl) rfl ⟨hS37.cell 1 rfl 0 rfl, hS37.cell 0 rfl 3 rfl, trivial⟩ ?_
       refine WL.mapput hS37 2 (t := 64) (kT := 3) (eT := 4) (kE := (vI .i64)) (vE := vB) (l := l23) rfl ((rdD l6 x24 z_Tile).W) true (fun fb => by kernel_rfl) weight_acyclic_key3 (by kernel_rfl) [0, 1] (by decide) (by decide) (fun w38 hS39 => ?_)
       refine ⟨trivial, ?_⟩
       refine WL.done rfl ?_
       refine WX.blockN (WX.next ?_)
       refine WC.region ?_
       refine seg 2 [] [0, 3, 11, 12, 13] [(0, (sv A4 l6 c5)), (3, (pt g18)), (11, (sv A4 l6 c5)), (12, (iv (l6.length : Int))), (13, (iv (w64 (x24 + 1))))] [] (fun fb => by kernel_rfl) rfl trivial ?_
       refine WL.done rfl ?_
       exact WX.again k27 (Nat.lt_succ_self _) (mput ((rdD l6 x24 z_Tile).W) true l23, w64 (x24 + 1)) [0, 3, 11, 12, 13] rfl ⟨(hS39.subR [0, 1]).sub [2, 0] (by decide), hl30⟩
      refine WC.condF2 (fun fb => by kernel_rfl) h31 ?_
      refine WC.exit ?_
      injection hl30 with hl30
      exact WX.thenX (WX.thenX (WX.blockHere (WX.to Kx25 l23 [0, 3] rfl ⟨(hS29.subR [0, 1]).sub [0, 1] (by decide), hl30.symm⟩)))
    rintro y43 w40 ⟨hS41, hq42⟩
    subst hq42
    refine WX.next (WC.seq (WC.region ?_))
    refine seg 1 [] [0, 3, 21] [(0, (sv A4 l6 c5)), (3, (pt g18)), (21, (sv A4 l6 c5))] [] (fun fb => by kernel_rfl) rfl trivial ?_
    obtain ⟨t44, ht45, hl12⟩ := bind_some hl12
    refine WL.call (some 22) 34 #[(sv A4 l6 c5)] (fun fb => by kernel_rfl) (slices_Clone_api_Tile_api_Tile_calls l6 A4 c5 t44 _ (hS41.rd 0) ht45) (fun v w46 hR47 => ?_)
    obtain ⟨A49, c50, rfl, hk_⟩ := hR47
    have hS48 : St NoS w w46 [rowR enc_Tile A4 c5 l6, rowR enc_Tile Aa ca p0] [rowO 39 enc_Tile A49 c50 t44, blk g18 (.cells #[(.map (some g14))] 64 (0, 0)), blk g14 (mapObj (vI .i64) vB x25)] := hS41.call hk_ [] [0, 1] (fun g hg => hg.elim) (by simp) (by decide)
    refine ⟨trivial, ?_⟩
    refine seg 3 [] [0, 22, 23] [(0, (sv A4 l6 c5)), (22, (sv A49 t44 c50)), (23, (.func (.func 35) #[] #[(pt g18)]))] [] (fun fb => by kernel_rfl) rfl trivial ?_
    obtain ⟨t51, ht52, hl12⟩ := bind_some hl12
    refine WL.call (some 24) 33 #[(sv A49 t44 c50), (.func (.func 35) #[] #[(pt g18)])] (fun fb => by kernel_rfl) (slices_DeleteFunc_api_Tile_api_Tile_with_weight_acyclic_1_calls _ t44 x25 A49 c50 g18 g14 t51 _ (hS48.owT [0] 2 (by decide)) (hS48.owT [0] 1 (by decide)) (hS48.io [0] (by decide)) ht52) (fun v w53 hR54 => ?_)
    obtain ⟨A56, c57, rfl, hk_⟩ := hR54
    have hS55 := hS48.go w53 [rowO 39 enc_Tile A56 c57 t51, blk g18 (.cells #[(.map (some g14))] 64 (0, 0)), blk g14 (mapObj (vI .i64) vB x25)] (hS48.call hk_ [0] [1, 2] (fun g hg => fpL_sel g hg) (by decide) (by decide))
    refine ⟨trivial, ?_⟩
    refine seg 5 [] [0, 6] [(0, (sv A4 l6 c5)), (6, (sv A56 t51 c57))] [] (fun fb => by kernel_rfl) rfl trivial ?_
    refine WL.done rfl (WX.next (WC.seq (WC.seq (WC.region ?_))))
    refine seg 5 [] [6, 29] [(6, (sv A56 t51 c57)), (29, (bv ((t51.length : Int) == (l6.length : Int))))] [] (fun fb => by kernel_rfl) rfl trivial ?_
    refine WL.done rfl (WX.next ?_)
    rcases br_some hl12 with ⟨h58, hl12⟩ | ⟨h58, hl12⟩
    ·refine WC.condT2 (fun fb => by kernel_rfl) h58 ?_
     refine WC.seq (WC.region ?_)
     refine seg 1 [] [2] [(2, (bv false))] [] (fun fb => by kernel_rfl) rfl trivial ?_
     refine WL.done rfl (WX.next ?_)
     refine WC.ret ?_
     injection hl12 with hl12
     subst hl12
     injection hf with hf
     subst hf
     exact WX.thenR (WX.blockR (WX.thenR (WX.blockR (WX.thenR (WX.ret_ [] (bv false) [] (fun fb => by kernel_rfl) trivial ⟨_, rfl, rfl, hS55.keep⟩)))))
    refine WC.condF2 (fun fb => by kernel_rfl) h58 ?_
    refine WC.skip (WX.next (WC.region ?_))
    refine seg 2 [] [0] [(0, (sv A56 t51 c57))] [] (fun fb => by kernel_rfl) rfl trivial ?_
    refine WL.done rfl ?_
    have hS59 := hS55.freezeRow 0 rfl [1, 2] (by decide) (by decide)
    exact WX.blockN (WX.again k9 (Nat.lt_succ_self _) (t51, A56, c57) [0] rfl ⟨(hS59.subR [0, 2]).sub [] (by decide), hl12⟩)
   refine WC.condF2 (fun fb => by kernel_rfl) h13 ?_
   refine WC.exit ?_
   injection hl12 with hl12
   exact WX.thenX (WX.thenX (WX.blockHere (WX.to Kx7 () [] rfl ⟨(hS11.subR [1]).sub [] (by decide), hl12.symm⟩)))
 rintro y63 w60 ⟨hS61, hq62⟩
 subst hq62
 have hf := sum_inr hf
 refine WX.next (WC.seq (WC.region ?_))
 refine seg 1 [] [2] [(2, (bv true))] [] (fun fb => by kernel_rfl) rfl trivial ?_
 refine WL.done rfl (WX.next ?_)
 refine WC.ret ?_
 injection hf with hf
 subst hf
 exact WX.ret_ [] (bv true) [] (fun fb => by kernel_rfl) trivial ⟨_, rfl, rfl, hS61.keep⟩
theorem weight_Check_3_calls (k : Nat) (f0 : List Tile) (f1 : Weights) (ga : Nat) (Aa : Option Addr) (ca : Nat) (gb : Nat) (Ab : Option Addr) (cb : Nat) (Ac : Option Addr) (cc : Nat) (Ad : Option Addr) (cd : Nat) (Ae : Option Addr) (ce : Nat) (Af : Option Addr) (cf : Nat) (r : Bool) (w : World) (hR0 : RO NoS w (blk ga (.cells #[(sv Aa f0 ca)] 22 (0, 0)))) (hR1 : RO NoS w (rowR enc_Tile Aa ca f0)) (hR2 : RO NoS w (blk gb (.cells #[(sv Ab f1.Values cb), (sv Ac f1.Carries cc), (sv Ad f1.Factors cd), (sv Ae f1.Primes ce), (sv Af f1.Logs cf)] 26 (0, 0)))) (hR3 : RO NoS w (rowR enc_Frac Ab cb f1.Values)) (hR4 : RO NoS w (rowR enc_Frac Ac cc f1.Carries)) (hR5 : RO NoS w (rowR enc_Frac Ad cd f1.Factors)) (hR6 : RO NoS w (rowR encInt Ae ce f1.Primes)) (hR7 : RO NoS w (rowR encInt Af cf f1.Logs)) (hf : weight_Check_3 k f0 f1 = some r) :
  CallsR Tryd.prog 14 #[(pt ga), (pt gb)] w (fun v w' => v = (bv r) ∧ Keeps NoS w w') := by
 have hS : St NoS w w [blk ga (.cells #[(sv Aa f0 ca)] 22 (0, 0)), rowR enc_Tile Aa ca f0, blk gb (.cells #[(sv Ab f1.Values cb), (sv Ac f1.Carries cc), (sv Ad f1.Factors cd), (sv Ae f1.Primes ce), (sv Af f1.Logs cf)] 26 (0, 0)), rowR enc_Frac Ab cb f1.Values, rowR enc_Frac Ac cc f1.Carries, rowR enc_Frac Ad cd f1.Factors, rowR encInt Ae ce f1.Primes, rowR encInt Af cf f1.Logs] [] := St.init (ro_cons hR0 (ro_cons hR1 (ro_cons hR2 (ro_cons hR3 (ro_cons hR4 (ro_cons hR5 (ro_cons hR6 (ro_cons hR7 (ro_nil _ _)))))))))
 refine enter 27 Tryd.func14 rfl Tryd.ntmps14 rfl ?_
 unfold weight_Check_3 at hf
 refine WC.seq (WC.region ?_)
 refine seg 1 [] [0, 1] [(0, (pt ga)), (1, (pt gb))] [] (fun fb => by kernel_rfl) rfl trivial ?_
 refine WL.done rfl (WX.next (WC.seq (WC.region ?_)))
 refine seg 1 [] [0, 1, 3] [(0, (pt ga)), (1, (pt gb)), (3, (.slice none 0 0))] [] (fun fb => by kernel_rfl) rfl trivial ?_
 refine WL.done rfl (WX.next (WC.seq (WC.seq (WC.region ?_))))
 refine seg 3 [.v (sv Aa f0 ca)] [1, 3, 6, 7, 8] [(1, (pt gb)), (3, (.slice none 0 0)), (6, (sv Aa f0 ca)), (7, (iv (f0.length : Int))), (8, (iv 0))] [.cell ⟨ga, 0, none⟩ (sv Aa f0 ca)] (fun fb => by kernel_rfl) rfl ⟨blk_cell (hS.rd 0).1 0 rfl, trivial⟩ ?_
 refine WL.done rfl (WX.next ?_)
 have hS8 := hS.nilrow 39 enc_Tile
 obtain ⟨x16, hx17, hf⟩ := bind_some hf
 refine WC.cutN (T := (List Tile) × (Option Addr) × Nat) (fun t => [(3, (sv t.2.1 t.1 t.2.2))]) (fun t w1 => St NoS w w1 [blk ga (.cells #[(sv Aa f0 ca)] 22 (0, 0)), rowR enc_Tile Aa ca f0, blk gb (.cells #[(sv Ab f1.Values cb), (sv Ac f1.Carries cc), (sv Ad f1.Factors cd), (sv Ae f1.Primes ce), (sv Af f1.Logs cf)] 26 (0, 0)), rowR enc_Frac Ab cb f1.Values, rowR enc_Frac Ac cc f1.Carries, rowR enc_Frac Ad cd f1.Factors, rowR encInt Ae ce f1.Primes, rowR encInt Af cf f1.Logs] [rowO 39 enc_Tile t.2.1 t.2.2 t.1] ∧ x16 = t.1) (fun Kx16 => ?_) ?_
 ·
  refine WC.block ?_
  refine WC.loop (T := ((List Tile) × Int) × (Option Addr) × Nat) (fun t => [(1, (pt gb)), (3, (sv t.2.1 t.1.1 t.2.2)), (6, (sv Aa f0 ca)), (7, (iv (f0.length : Int))), (8, (iv t.1.2))]) (fun n t w1 => St NoS w w1 [blk ga (.cells #[(sv Aa f0 ca)] 22 (0, 0)), rowR enc_Tile Aa ca f0, blk gb (.cells #[(sv Ab f1.Values cb), (sv Ac f1.Carries cc), (sv Ad f1.Factors cd), (sv Ae f1.Primes ce), (sv Af f1.Logs cf)] 26 (0, 0)), rowR enc_Frac Ab cb f1.Values, rowR enc_Frac Ac cc f1.Carries, rowR enc_Frac Ad cd f1.Factors, rowR encInt Ae ce f1.Primes, rowR encInt Af cf f1.Logs] [rowO 39 enc_Tile t.2.1 t.2.2 t.1.1] ∧ weight_Check_3.l0 n t.1.1 t.1.2 f0 f1 = some x16) k ((([] : List Tile), 0), none, 0) [1, 3, 6, 7, 8] rfl ⟨(hS8.subR [0, 1, 2, 3, 4, 5, 6, 7]).sub [0] (by decide), hx17⟩ ?_
  rintro k18 ⟨⟨l11, x12⟩, A9, c10⟩ w19 ⟨hS20, hl21⟩
  cases k18 with
  | zero => rw [weight_Check_3.l0] at hl21; cases hl21
  | succ k18 =>
   rw [weight_Check_3.l0] at hl21
   refine WC.seq (WC.region ?_)
   refine seg 1 [] [1, 3, 6, 7, 8, 9] [(1, (pt gb)), (3, (sv A9 l11 c10)), (6, (sv Aa f0 ca)), (7, (iv (f0.length : Int))), (8, (iv x12)), (9, (bv (decide (x12 < (f0.length : Int)))))] [] (fun fb => by kernel_rfl) rfl trivial ?_
   refine WL.done rfl (WX.next (WC.seq ?_))
   rcases br_some hl21 with ⟨h22, hl21⟩ | ⟨h22, hl21⟩
   ·refine WC.condT2 (fun fb => by kernel_rfl) h22 ?_
    refine WC.skip (WX.next (WC.seq (WC.block (WC.seq (WC.region ?_)))))
    obtain ⟨h23, hl21⟩ := as_some hl21
    refine seg 2 [.v (iv ((rdD f0 x12 z_Tile).N)), .v (iv ((rdD f0 x12 z_Tile).E)), .v (iv ((rdD f0 x12 z_Tile).S)), .v (iv ((rdD f0 x12 z_Tile).W))] [1, 3, 6, 7, 8, 11] [(1, (pt gb)), (3, (sv A9 l11 c10)), (6, (sv Aa f0 ca)), (7, (iv (f0.length : Int))), (8, (iv x12)), (11, (.agg #[(iv ((rdD f0 x12 z_Tile).N)), (iv ((rdD f0 x12 z_Tile).E)), (iv ((rdD f0 x12 z_Tile).S)), (iv ((rdD f0 x12 z_Tile).W))]))] [.idx Aa x12 f0.length, .cell ((adr Aa).add ((x12).toNat * 4)) (iv ((rdD f0 x12 z_Tile).N)), .cell (((adr Aa).add ((x12).toNat * 4)).add 1) (iv ((rdD f0 x12 z_Tile).E)), .cell (((adr Aa).add ((x12).toNat * 4)).add 2) (iv ((rdD f0 x12 z_Tile).S)), .cell (((adr Aa).add ((x12).toNat * 4)).add 3) (iv ((rdD f0 x12 z_Tile).W))] (fun fb => by kernel_rfl) rfl ⟨rowR.adr (hS20.rd 1).1 h23.1 h23.2, rowR.cell (hS20.rd 1).1 z_Tile h23.1 h23.2 0 rfl, rowR.cell (hS20.rd 1).1 z_Tile h23.1 h23.2 1 rfl, rowR.cell (hS20.rd 1).1 z_Tile h23.1 h23.2 2 rfl, rowR.cell (hS20.rd 1).1 z_Tile h23.1 h23.2 3 rfl, trivial⟩ ?_
    refine WL.new hS20 5 [] (fun g => (pt g)) (.cells #[(iv 0), (iv 0), (iv 0), (iv 0)] 39 (0, 0)) [] (fun fb g => by kernel_rfl) trivial (fun g24 w25 hS26 => ?_)
    refine ⟨trivial, ?_⟩
    refine WL.store hS26 0 rfl [(0, (iv ((rdD f0 x12 z_Tile).N))), (1, (iv ((rdD f0 x12 z_Tile).E))), (2, (iv ((rdD f0 x12 z_Tile).S))), (3, (iv ((rdD f0 x12 z_Tile).W)))] #[(iv ((rdD f0 x12 z_Tile).N)), (iv ((rdD f0 x12 z_Tile).E)), (iv ((rdD f0 x12 z_Tile).S)), (iv ((rdD f0 x12 z_Tile).W))] (fun fb => by kernel_rfl) (by kernel_rfl) rfl [1] (by decide) (by decide) (fun w27 hS28 => ?_)
    refine ⟨trivial, ?_⟩
    refine WL.done rfl (WX.next (WC.seq (WC.region ?_)))
    refine seg 4 [.v (sv Ab f1.Values cb), .v (iv ((rdD f0 x12 z_Tile).S))] [1, 3, 5, 6, 7, 8, 13, 15] [(1, (pt gb)), (3, (sv A9 l11 c10)), (5, (pt g24)), (6, (sv Aa f0 ca)), (7, (iv (f0.length : Int))), (8, (iv x12)), (13, (sv Ab f1.Values cb)), (15, (iv ((rdD f0 x12 z_Tile).S)))] [.cell ⟨gb, 0, none⟩ (sv Ab f1.Values cb), .cell ⟨g24, 2, none⟩ (iv ((rdD f0 x12 z_Tile).S))] (fun fb => by kernel_rfl) rfl ⟨blk_cell (hS28.rd 2).1 0 rfl, hS28.cell 0 rfl 2 rfl, trivial⟩ ?_
    obtain ⟨h29, hl21⟩ := as_some hl21
    refine seg 8 [.v (iv ((rdD f1.Values ((rdD f0 x12 z_Tile).S) z_Frac).Num))] [1, 3, 5, 6, 7, 8, 19] [(1, (pt gb)), (3, (sv A9 l11 c10)), (5, (pt g24)), (6, (sv Aa f0 ca)), (7, (iv (f0.length : Int))), (8, (iv x12)), (19, (bv (((rdD f1.Values ((rdD f0 x12 z_Tile).S) z_Frac).Num) == 0)))] [.idx Ab ((rdD f0 x12 z_Tile).S) f1.Values.length, .cell ((adr Ab).add (((rdD f0 x12 z_Tile).S).toNat * 2)) (iv ((rdD f1.Values ((rdD f0 x12 z_Tile).S) z_Frac).Num))] (fun fb => by kernel_rfl) rfl ⟨rowR.adr (hS28.rd 3).1 h29.1 h29.2, rowR.cell (hS28.rd 3).1 z_Frac h29.1 h29.2 0 rfl, trivial⟩ ?_
    refine WL.done rfl (WX.next ?_)
    obtain ⟨x32, hx33, hl21⟩ := bind_some hl21
    refine WC.cutN (T := (List Tile) × (Option Addr) × Nat) (fun t => [(1, (pt gb)), (3, (sv t.2.1 t.1 t.2.2)), (6, (sv Aa f0 ca)), (7, (iv (f0.length : Int))), (8, (iv x12))]) (fun t w1 => St NoS w w1 [blk ga (.cells #[(sv Aa f0 ca)] 22 (0, 0)), rowR enc_Tile Aa ca f0, blk gb (.cells #[(sv Ab f1.Values cb), (sv Ac f1.Carries cc), (sv Ad f1.Factors cd), (sv Ae f1.Primes ce), (sv Af f1.Logs cf)] 26 (0, 0)), rowR enc_Frac Ab cb f1.Values, rowR enc_Frac Ac cc f1.Carries, rowR enc_Frac Ad cd f1.Factors, rowR encInt Ae ce f1.Primes, rowR encInt Af cf f1.Logs] [rowO 39 enc_Tile t.2.1 t.2.2 t.1] ∧ x32 = t.1) (fun Kx32 => ?_) ?_
    ·
     rcases br_some hx33 with ⟨h34, hx33⟩ | ⟨h34, hx33⟩
     ·refine WC.condT2 (fun fb => by kernel_rfl) h34 ?_
      refine WC.region ?_
      refine seg 2 [.v (iv ((rdD f0 x12 z_Tile).N)), .v (iv ((rdD f0 x12 z_Tile).E)), .v (iv ((rdD f0 x12 z_Tile).S)), .v (iv ((rdD f0 x12 z_Tile).W))] [1, 6, 7, 8, 20, 21] [(1, (pt gb)), (6, (sv Aa f0 ca)), (7, (iv (f0.length : Int))), (8, (iv x12)), (20, (sv A9 l11 c10)), (21, (.agg #[(iv ((rdD f0 x12 z_Tile).N)), (iv ((rdD f0 x12 z_Tile).E)), (iv ((rdD f0 x12 z_Tile).S)), (iv ((rdD f0 x12 z_Tile).W))]))] [.cell ⟨g24, 0, none⟩ (iv ((rdD f0 x12 z_Tile).N)), .cell ⟨g24, 1, none⟩ (iv ((rdD f0 x12 z_Tile).E)), .cell ⟨g24, 2, none⟩ (iv ((rdD f0 x12 z_Tile).S)), .cell ⟨g24, 3, none⟩ (iv ((rdD f0 x12 z_Tile).W))] (fun fb => by kernel_rfl) rfl ⟨hS28.cell 0 rfl 0 rfl, hS28.cell 0 rfl 1 rfl, hS28.cell 0 rfl 2 rfl, hS28.cell 0 rfl 3 rfl, trivial⟩ ?_
      refine WL.new hS28 22 [] (fun g => (.slice (some ⟨g, 0, none⟩) 1 1)) (.cells #[(iv ((rdD f0 x12 z_Tile).N)), (iv ((rdD f0 x12 z_Tile).E)), (iv ((rdD f0 x12 z_Tile).S)), (iv ((rdD f0 x12 z_Tile).W))] 39 (0, 0)) [] (fun fb g => by kernel_rfl) trivial (fun g35 w36 hS37 => ?_)
      refine ⟨trivial, ?_⟩
      have hS38 := hS.go w36 [rowO 39 enc_Tile (some ⟨g35, 0, none⟩) 1 [(rdD f0 x12 z_Tile)], blk g24 (.cells #[(iv ((rdD f0 x12 z_Tile).N)), (iv ((rdD f0 x12 z_Tile).E)), (iv ((rdD f0 x12 z_Tile).S)), (iv ((rdD f0 x12 z_Tile).W))] 39 (0, 0)), rowO 39 enc_Tile A9 c10 l11] (hS37.map1 0 _ (fun h => rowO.ofBlk h rfl (Nat.le_of_ble_eq_true (by kernel_rfl))) (fun _ h => by obtain ⟨_, h1, h2⟩ := h; injection h1 with h1; subst h1; exact h2) [1, 2] (by decide) (by decide))
      obtain ⟨h39, hx33⟩ := as_some hx33
      refine WL.append hS38 2 (d := 23) (tS := 22) (z := (.agg #[(iv 0), (iv 0), (iv 0), (iv 0)])) (bytes := 32) (c2 := 1) rfl (fun fb => by kernel_rfl) (rowO.rd (hS38.own 0).1) (by kernel_rfl) (by kernel_rfl) rfl (by decide) h39 (by decide) [0, 1] (by decide) (by decide) (fun A40 c41 w42 hS43 => ?_)
      refine ⟨trivial, ?_⟩
      refine seg 5 [] [1, 3, 6, 7, 8] [(1, (pt gb)), (3, (sv A40 (l11 ++ [(rdD f0 x12 z_Tile)]) c41)), (6, (sv Aa f0 ca)), (7, (iv (f0.length : Int))), (8, (iv x12))] [] (fun fb => by kernel_rfl) rfl trivial ?_
      refine WL.done rfl ?_
      injection hx33 with hx33
      exact WX.to Kx32 (l11 ++ [(rdD f0 x12 z_Tile)], A40, c41) [1, 3, 6, 7, 8] rfl ⟨(hS43.subR [0, 1, 2, 3, 4, 5, 6, 7]).sub [0] (by decide), hx33.symm⟩
     refine WC.condF2 (fun fb => by kernel_rfl) h34 ?_
     refine WC.skip ?_
     injection hx33 with hx33
     exact WX.to Kx32 (l11, A9, c10) [1, 3, 6, 7, 8] rfl ⟨(hS28.subR [0, 1, 2, 3, 4, 5, 6, 7]).sub [1] (by decide), hx33.symm⟩
    rintro ⟨y47, A30, c31⟩ w44 ⟨hS45, hq46⟩
    subst hq46
    refine WX.blockN (WX.next ?_)
    refine WC.region ?_
    refine seg 2 [] [1, 3, 6, 7, 8] [(1, (pt gb)), (3, (sv A30 x32 c31)), (6, (sv Aa f0 ca)), (7, (iv (f0.length : Int))), (8, (iv (w64 (x12 + 1))))] [] (fun fb => by kernel_rfl) rfl trivial ?_
    refine WL.done rfl ?_
    exact WX.again k18 (Nat.lt_succ_self _) ((x32, w64 (x12 + 1)), A30, c31) [1, 3, 6, 7, 8] rfl ⟨(hS45.subR [0, 1, 2, 3, 4, 5, 6, 7]).sub [0] (by decide), hl21⟩
   refine WC.condF2 (fun fb => by kernel_rfl) h22 ?_
   refine WC.exit ?_
   injection hl21 with hl21
   exact WX.thenX (WX.thenX (WX.blockHere (WX.to Kx16 (l11, A9, c10) [3] rfl ⟨(hS20.subR [0, 1, 2, 3, 4, 5, 6, 7]).sub [0] (by decide), hl21.symm⟩)))
 rintro ⟨y51, A13, c15⟩ w48 ⟨hS49, hq50⟩
 subst hq50
 refine WX.next (WC.seq (WC.region ?_))
 refine seg 1 [] [25] [(25, (sv A13 x16 c15))] [] (fun fb => by kernel_rfl) rfl trivial ?_
 obtain ⟨t52, ht53, hf⟩ := bind_some hf
 refine WL.call (some 26) 15 #[(sv A13 x16 c15)] (fun fb => by kernel_rfl) (weight_acyclic_calls _ x16 A13 c15 t52 _ (hS49.ow 0).ofO ht53) (fun v w54 hR55 => ?_)
 obtain ⟨rfl, hk_⟩ := hR55
 have hS56 := hS49.keepN hk_
 refine ⟨trivial, ?_⟩
 refine seg 3 [] [2] [(2, (bv t52))] [] (fun fb => by kernel_rfl) rfl trivial ?_
 refine WL.done rfl (WX.next ?_)
 refine WC.ret ?_
 injection hf with hf
 subst hf
 exact WX.ret_ [] (bv t52) [] (fun fb => by kernel_rfl) trivial ⟨_, rfl, rfl, hS56.keep⟩
theorem weight_gcd_calls (k : Nat) (p0 : Int) (p1 : Int)  (r : Int) (w : World)  (hf : weight_gcd k p0 p1 = some r) :
  CallsR Tryd.prog 48 #[(iv p0), (iv p1)] w (fun v w' => v = (iv r) ∧ Keeps NoS w w') := by
 have hS : St NoS w w [] [] := St.init (ro_nil _ _)
 refine enter 12 Tryd.func48 rfl Tryd.ntmps48 rfl ?_
 unfold weight_gcd at hf
 refine WC.seq (WC.region ?_)
 refine seg 1 [] [0, 1] [(0, (iv p0)), (1, (iv p1))] [] (fun fb => by kernel_rfl) rfl trivial ?_
 refine WL.done rfl (WX.next (WC.seq ?_))
 obtain ⟨x5, hx6, hf⟩ := bind_some hf
 refine WC.cutN (T := Int) (fun t => [(0, (iv t))]) (fun t w1 => St NoS w w1 [] [] ∧ x5 = t) (fun Kx5 => ?_) ?_
 ·
  refine WC.block ?_
  refine WC.loop (T := Int × Int) (fun t => [(0, (iv t.1)), (1, (iv t.2))]) (fun n t w1 => St NoS w w1 [] [] ∧ weight_gcd.l0 n t.1 t.2 = some x5) k (p0, p1) [0, 1] rfl ⟨(hS.subR []).sub [] (by decide), hx6⟩ ?_
  rintro k7 ⟨x3, x4⟩ w8 ⟨hS9, hl10⟩
  cases k7 with
  | zero => rw [weight_gcd.l0] at hl10; cases hl10
  | succ k7 =>
   rw [weight_gcd.l0] at hl10
   refine WC.seq (WC.seq (WC.region ?_))
   refine seg 2 [] [0, 1, 6] [(0, (iv x3)), (1, (iv x4)), (6, (bv (x4 != 0)))] [] (fun fb => by kernel_rfl) rfl trivial ?_
   refine WL.done rfl (WX.next ?_)
   rcases br_some hl10 with ⟨h11, hl10⟩ | ⟨h11, hl10⟩
   ·refine WC.condT2 (fun fb => by kernel_rfl) h11 ?_
    refine WC.skip (WX.next (WC.block ?_))
    obtain ⟨h14, hl10⟩ := as_some hl10
    refine WC.regionD ([], [0, 1, 2, 3, 4, 5], [[], [], [], [1, 2], [0, 1], [0, 1, 2, 3, 4]]) [[0, 1, 2, 3, 4, 5]] (by kernel_rfl) (by kernel_rfl) (NoPanic.block (NoPanic.seq (NoPanic.block (NoPanic.seq (NoPanic.body))))) ?_
    have hS13 := hS9.drew
    revert hS13
    generalize World.drew w8 = w12
    intro hS13
    refine ⟨trivial, forallC ?_ (forallN)⟩
    refine seg 6 [] [0, 1] [(0, (iv x4)), (1, (iv (Int.tmod x3 x4)))] [.ne x4] (fun fb => by kernel_rfl) rfl ⟨h14, trivial⟩ ?_
    refine WL.done rfl ?_
    exact WX.blockN (WX.again k7 (Nat.lt_succ_self _) (x4, Int.tmod x3 x4) [0, 1] rfl ⟨(hS13.subR []).sub [] (by decide), hl10⟩)
   refine WC.condF2 (fun fb => by kernel_rfl) h11 ?_
   refine WC.exit ?_
   injection hl10 with hl10
   exact WX.thenX (WX.thenX (WX.blockHere (WX.to Kx5 x3 [0] rfl ⟨(hS9.subR []).sub [] (by decide), hl10.symm⟩)))
 rintro y18 w15 ⟨hS16, hq17⟩
 subst hq17
 refine WX.next (WC.seq (WC.region ?_))
 refine seg 2 [] [4] [(4, (iv x5))] [] (fun fb => by kernel_rfl) rfl trivial ?_
 refine WL.done rfl (WX.next ?_)
 refine WC.ret ?_
 injection hf with hf
 subst hf
 exact WX.ret_ [] (iv x5) [] (fun fb => by kernel_rfl) trivial ⟨_, rfl, rfl, hS16.keep⟩
theorem weight_fraction_lowest_calls (k : Nat) (p0 : Fraction)  (r : Fraction) (w : World)  (hf : weight_fraction_lowest k p0 = some r) :
  CallsR Tryd.prog 38 #[(.agg #[(iv p0.Num), (iv p0.Den)])] w (fun v w' => v = (.agg #[(iv r.Num), (iv r.Den)]) ∧ Keeps NoS w w') := by
 have hS : St NoS w w [] [] := St.init (ro_nil _ _)
 refine enter 22 Tryd.func38 rfl Tryd.ntmps38 rfl ?_
 unfold weight_fraction_lowest at hf
 refine WC.seq (WC.region ?_)
 refine WL.new hS 1 [] (fun g => (pt g)) (.cells #[(iv p0.Num), (iv p0.Den)] 47 (0, 0)) [] (fun fb g => by kernel_rfl) trivial (fun g1 w2 hS3 => ?_)
 refine ⟨trivial, ?_⟩
 refine WL.new hS3 2 [] (fun g => (pt g)) (.cells #[(iv 0), (iv 0)] 47 (0, 0)) [] (fun fb g => by kernel_rfl) trivial (fun g4 w5 hS6 => ?_)
 refine ⟨trivial, ?_⟩
 refine WL.done rfl (WX.next (WC.seq (WC.region ?_)))
 refine seg 8 [.v (iv p0.Num), .v (iv p0.Num), .v (iv p0.Den)] [1, 2, 9, 11] [(1, (pt g1)), (2, (pt g4)), (9, (iv (maxI p0.Num (w64 (0 - p0.Num))))), (11, (iv p0.Den))] [.cell ⟨g1, 0, none⟩ (iv p0.Num), .cell ⟨g1, 0, none⟩ (iv p0.Num), .cell ⟨g1, 1, none⟩ (iv p0.Den)] (fun fb => by kernel_rfl) rfl ⟨hS6.cell 1 rfl 0 rfl, hS6.cell 1 rfl 0 rfl, hS6.cell 1 rfl 1 rfl, trivial⟩ ?_
 obtain ⟨t7, ht8, hf⟩ := bind_some hf
 refine WL.call (some 12) 48 #[(iv (maxI p0.Num (w64 (0 - p0.Num)))), (iv p0.Den)] (fun fb => by kernel_rfl) (weight_gcd_calls _ (maxI p0.Num (w64 (0 - p0.Num))) p0.Den t7 _ ht8) (fun v w9 hR10 => ?_)
 obtain ⟨rfl, hk_⟩ := hR10
 have hS11 := hS6.keepN hk_
 refine ⟨trivial, ?_⟩
 refine seg 10 [] [1, 2, 3] [(1, (pt g1)), (2, (pt g4)), (3, (iv t7))] [] (fun fb => by kernel_rfl) rfl trivial ?_
 refine WL.done rfl (WX.next (WC.seq ?_))
 obtain ⟨h14, hf⟩ := as_some hf
 refine WC.regionD ([(1, ⟨g1, 0, none⟩, (iv p0.Num)), (5, ⟨g1, 1, none⟩, (iv p0.Den))], [0, 1, 2, 3, 4, 5, 6, 7, 8], [[], [0], [], [0, 1, 2], [], [4], [], [4, 5, 6], [0, 1, 2, 3, 4, 5, 6, 7], [0, 1, 2, 3, 4, 5, 6, 7, 8]]) [[0, 1, 2, 3, 4, 5, 6, 7, 8, 9]] (by kernel_rfl) (by kernel_rfl) (NoPanic.seq (NoPanic.body)) ?_
 have hS13 := hS11.drew
 revert hS13
 generalize World.drew w9 = w12
 intro hS13
 refine ⟨⟨hS13.cell 1 rfl 0 rfl, hS13.cell 1 rfl 1 rfl, trivial⟩, forallC ?_ (forallN)⟩
 refine segF 9 [.v (iv p0.Num), .v (iv p0.Den)] [2, 21] [(2, (pt g4)), (21, (.agg #[(iv (w64 (Int.tdiv p0.Num t7))), (iv (w64 (Int.tdiv p0.Den t7)))]))] [.ne t7, .ne t7] [0, 1] [(1, ⟨g1, 0, none⟩, (iv p0.Num)), (5, ⟨g1, 1, none⟩, (iv p0.Den))] (fun fb => by kernel_rfl) rfl ⟨h14, h14, trivial⟩ rfl ?_
 refine WL.store hS13 0 rfl [(0, (iv (w64 (Int.tdiv p0.Num t7)))), (1, (iv (w64 (Int.tdiv p0.Den t7))))] #[(iv (w64 (Int.tdiv p0.Num t7))), (iv (w64 (Int.tdiv p0.Den t7)))] (fun fb => by kernel_rfl) (by kernel_rfl) rfl [1] (by decide) (by decide) (fun w15 hS16 => ?_)
 refine ⟨trivial, ?_⟩
 refine WL.done rfl (WX.next ?_)
 refine WC.ret ?_
 injection hf with hf
 subst hf
 exact WX.ret_ [.v (iv (w64 (Int.tdiv p0.Num t7))), .v (iv (w64 (Int.tdiv p0.Den t7)))] (.agg #[(iv (w64 (Int.tdiv p0.Num t7))), (iv (w64 (Int.tdiv p0.Den t7)))]) [.cell ⟨g4, 0, none⟩ (iv (w64 (Int.tdiv p0.Num t7))), .cell ⟨g4, 1, none⟩ (iv (w64 (Int.tdiv p0.Den t7)))] (fun fb => by kernel_rfl) ⟨hS16.cell 0 rfl 0 rfl, hS16.cell 0 rfl 1 rfl, trivial⟩ ⟨_, rfl, rfl, hS16.keep⟩
theorem weight_grows_calls (k : Nat) (p0 : Frac) (p1 : Weights) (Aa : Option Addr) (ca : Nat) (Ab : Option Addr) (cb : Nat) (Ac : Option Addr) (cc : Nat) (Ad : Option Addr) (cd : Nat) (Ae : Option Addr) (ce : Nat) (r : Bool) (w : World) (hR0 : RO NoS w (rowR enc_Frac Aa ca p1.Values)) (hR1 : RO NoS w (rowR enc_Frac Ab cb p1.Carries)) (hR2 : RO NoS w (rowR enc_Frac Ac cc p1.Factors)) (hR3 : RO NoS w (rowR encInt Ad cd p1.Primes)) (hR4 : RO NoS w (rowR encInt Ae ce p1.Logs)) (hf : weight_grows k p0 p1 = some r) :
  CallsR Tryd.prog 19 #[(.agg #[(iv p0.Num), (iv p0.Den)]), (.agg #[(sv Aa p1.Values ca), (sv Ab p1.Carries cb), (sv Ac p1.Factors cc), (sv Ad p1.Primes cd), (sv Ae p1.Logs ce)])] w (fun v w' => v = (bv r) ∧ Keeps NoS w w') := by
 have hS : St NoS w w [rowR enc_Frac Aa ca p1.Values, rowR enc_Frac Ab cb p1.Carries, rowR enc_Frac Ac cc p1.Factors, rowR encInt Ad cd p1.Primes, rowR encInt Ae ce p1.Logs] [] := St.init (ro_cons hR0 (ro_cons hR1 (ro_cons hR2 (ro_cons hR3 (ro_cons hR4 (ro_nil _ _))))))
 refine enter 66 Tryd.func19 rfl Tryd.ntmps19 rfl ?_
 unfold weight_grows at hf
 refine WC.seq (WC.region ?_)
 refine WL.new hS 2 [] (fun g => (pt g)) (.cells #[(iv p0.Num), (iv p0.Den)] 36 (0, 0)) [] (fun fb g => by kernel_rfl) trivial (fun g5 w6 hS7 => ?_)
 refine ⟨trivial, ?_⟩
 refine WL.new hS7 3 [] (fun g => (pt g)) (.cells #[(sv Aa p1.Values ca), (sv Ab p1.Carries cb), (sv Ac p1.Factors cc), (sv Ad p1.Primes cd), (sv Ae p1.Logs ce)] 26 (0, 0)) [] (fun fb g => by kernel_rfl) trivial (fun g8 w9 hS10 => ?_)
 refine ⟨trivial, ?_⟩
 refine seg 3 [] [2, 3] [(2, (pt g5)), (3, (pt g8))] [] (fun fb => by kernel_rfl) rfl trivial ?_
 refine WL.done rfl (WX.next (WC.seq (WC.region ?_)))
 refine seg 1 [.v (iv p0.Num), .v (iv p0.Den)] [3, 9] [(3, (pt g8)), (9, (.agg #[(iv p0.Num), (iv p0.Den)]))] [.cell ⟨g5, 0, none⟩ (iv p0.Num), .cell ⟨g5, 1, none⟩ (iv p0.Den)] (fun fb => by kernel_rfl) rfl ⟨hS10.cell 1 rfl 0 rfl, hS10.cell 1 rfl 1 rfl, trivial⟩ ?_
 obtain ⟨t11, ht12, hf⟩ := bind_some hf
 refine WL.call (some 10) 38 #[(.agg #[(iv p0.Num), (iv p0.Den)])] (fun fb => by kernel_rfl) (weight_fraction_lowest_calls _ (Fraction.mk p0.Num p0.Den) t11 _ ht12) (fun v w13 hR14 => ?_)
 obtain ⟨rfl, hk_⟩ := hR14
 have hS15 := hS10.keepN hk_
 refine ⟨trivial, ?_⟩
 refine WL.new hS15 5 [] (fun g => (pt g)) (.cells #[(iv 0), (iv 0)] 47 (0, 0)) [] (fun fb g => by kernel_rfl) trivial (fun g16 w17 hS18 => ?_)
 refine ⟨trivial, ?_⟩
 refine WL.store hS18 0 rfl [(0, (iv t11.Num)), (1, (iv t11.Den))] #[(iv t11.Num), (iv t11.Den)] (fun fb => by kernel_rfl) (by kernel_rfl) rfl [1, 2] (by decide) (by decide) (fun w20 hS21 => ?_)
 refine ⟨trivial, ?_⟩
 refine WL.done rfl (WX.next (WC.seq (WC.region ?_)))
 refine seg 1 [] [3, 5, 6] [(3, (pt g8)), (5, (pt g16)), (6, (iv 0))] [] (fun fb => by kernel_rfl) rfl trivial ?_
 refine WL.done rfl (WX.next (WC.seq (WC.seq (WC.region ?_))))
 refine seg 4 [.v (sv Ad p1.Primes cd)] [3, 5, 6, 12, 13, 14] [(3, (pt g8)), (5, (pt g16)), (6, (iv 0)), (12, (sv Ad p1.Primes cd)), (13, (iv (p1.Primes.length : Int))), (14, (iv 0))] [.cell ⟨g8, 3, none⟩ (sv Ad p1.Primes cd)] (fun fb => by kernel_rfl) rfl ⟨hS21.cell 1 rfl 3 rfl, trivial⟩ ?_
 refine WL.done rfl (WX.next ?_)
 obtain ⟨x26, hx27, hf⟩ := bind_some hf
 refine WC.cutN (T := Int × Int × Int) (fun t => [(5, (pt g16)), (6, (iv t.2.2))]) (fun t w1 => St NoS w w1 [rowR enc_Frac Aa ca p1.Values, rowR enc_Frac Ab cb p1.Carries, rowR enc_Frac Ac cc p1.Factors, rowR encInt Ad cd p1.Primes, rowR encInt Ae ce p1.Logs] [blk g16 (.cells #[(iv t.1), (iv t.2.1)] 47 (0, 0))] ∧ x26 = t) (fun Kx26 => ?_) ?_
 ·
  refine WC.block ?_
  refine WC.loop (T := Int × Int × Int × Int) (fun t => [(3, (pt g8)), (5, (pt g16)), (6, (iv t.2.2.1)), (12, (sv Ad p1.Primes cd)), (13, (iv (p1.Primes.length : Int))), (14, (iv t.2.2.2))]) (fun n t w1 => St NoS w w1 [rowR enc_Frac Aa ca p1.Values, rowR enc_Frac Ab cb p1.Carries, rowR enc_Frac Ac cc p1.Factors, rowR encInt Ad cd p1.Primes, rowR encInt Ae ce p1.Logs] [blk g8 (.cells #[(sv Aa p1.Values ca), (sv Ab p1.Carries cb), (sv Ac p1.Factors cc), (sv Ad p1.Primes cd), (sv Ae p1.Logs ce)] 26 (0, 0)), blk g16 (.cells #[(iv t.1), (iv t.2.1)] 47 (0, 0))] ∧ weight_grows.l0 n t.1 t.2.1 t.2.2.1 t.2.2.2 p1 = some x26) k (t11.Num, t11.Den, 0, 0) [3, 5, 6, 12, 13, 14] rfl ⟨(hS21.subR [0, 1, 2, 3, 4]).sub [1, 0] (by decide), hx27⟩ ?_
  rintro k28 ⟨x22, x23, x24, x25⟩ w29 ⟨hS30, hl31⟩
  cases k28 with
  | zero => rw [weight_grows.l0] at hl31; cases hl31
  | succ k28 =>
   rw [weight_grows.l0] at hl31
   refine WC.seq (WC.region ?_)
   refine seg 1 [] [3, 5, 6, 12, 13, 14, 15] [(3, (pt g8)), (5, (pt g16)), (6, (iv x24)), (12, (sv Ad p1.Primes cd)), (13, (iv (p1.Primes.length : Int))), (14, (iv x25)), (15, (bv (decide (x25 < (p1.Primes.length : Int)))))] [] (fun fb => by kernel_rfl) rfl trivial ?_
   refine WL.done rfl (WX.next (WC.seq ?_))
   rcases br_some hl31 with ⟨h32, hl31⟩ | ⟨h32, hl31⟩
   ·refine WC.condT2 (fun fb => by kernel_rfl) h32 ?_
    refine WC.skip (WX.next (WC.seq (WC.block (WC.seq (WC.region ?_)))))
    refine seg 1 [] [3, 5, 6, 12, 13, 14, 16] [(3, (pt g8)), (5, (pt g16)), (6, (iv x24)), (12, (sv Ad p1.Primes cd)), (13, (iv (p1.Primes.length : Int))), (14, (iv x25)), (16, (iv x25))] [] (fun fb => by kernel_rfl) rfl trivial ?_
    obtain ⟨h33, hl31⟩ := as_some hl31
    refine seg 5 [.v (iv (rdD p1.Primes x25 0))] [3, 5, 6, 7, 8, 12, 13, 14] [(3, (pt g8)), (5, (pt g16)), (6, (iv x24)), (7, (iv x25)), (8, (iv (rdD p1.Primes x25 0))), (12, (sv Ad p1.Primes cd)), (13, (iv (p1.Primes.length : Int))), (14, (iv x25))] [.idx Ad x25 p1.Primes.length, .cell ((adr Ad).add ((x25).toNat * 1)) (iv (rdD p1.Primes x25 0))] (fun fb => by kernel_rfl) rfl ⟨rowR.adr (hS30.rd 3).1 h33.1 h33.2, rowR.cell (hS30.rd 3).1 0 h33.1 h33.2 0 rfl, trivial⟩ ?_
    refine WL.done rfl (WX.next (WC.seq ?_))
    obtain ⟨x36, hx37, hl31⟩ := bind_some hl31
    refine WC.cutN (T := Int × Int) (fun t => [(3, (pt g8)), (5, (pt g16)), (6, (iv t.2)), (7, (iv x25)), (8, (iv (rdD p1.Primes x25 0))), (12, (sv Ad p1.Primes cd)), (13, (iv (p1.Primes.length : Int))), (14, (iv x25))]) (fun t w1 => St NoS w w1 [rowR enc_Frac Aa ca p1.Values, rowR enc_Frac Ab cb p1.Carries, rowR enc_Frac Ac cc p1.Factors, rowR encInt Ad cd p1.Primes, rowR encInt Ae ce p1.Logs] [blk g8 (.cells #[(sv Aa p1.Values ca), (sv Ab p1.Carries cb), (sv Ac p1.Factors cc), (sv Ad p1.Primes cd), (sv Ae p1.Logs ce)] 26 (0, 0)), blk g16 (.cells #[(iv t.1), (iv x23)] 47 (0, 0))] ∧ x36 = t) (fun Kx36 => ?_) ?_
    ·
     refine WC.block ?_
     refine WC.loop (T := Int × Int) (fun t => [(3, (pt g8)), (5, (pt g16)), (6, (iv t.2)), (7, (iv x25)), (8, (iv (rdD p1.Primes x25 0))), (12, (sv Ad p1.Primes cd)), (13, (iv (p1.Primes.length : Int))), (14, (iv x25))]) (fun n t w1 => St NoS w w1 [rowR enc_Frac Aa ca p1.Values, rowR enc_Frac Ab cb p1.Carries, rowR enc_Frac Ac cc p1.Factors, rowR encInt Ad cd p1.Primes, rowR encInt Ae ce p1.Logs] [blk g8 (.cells #[(sv Aa p1.Values ca), (sv Ab p1.Carries cb), (sv Ac p1.Factors cc), (sv Ad p1.Primes cd), (sv Ae p1.Logs ce)] 26 (0, 0)), blk g16 (.cells #[(iv t.1), (iv x23)] 47 (0, 0))] ∧ weight_grows.l1 n t.1 t.2 p1 x25 = some x36) k28 (x22, x24) [3, 5, 6, 7, 8, 12, 13, 14] rfl ⟨(hS30.subR [0, 1, 2, 3, 4]).sub [0, 1] (by decide), hx37⟩ ?_
     rintro k38 ⟨x34, x35⟩ w39 ⟨hS40, hl41⟩
     cases k38 with
     | zero => rw [weight_grows.l1] at hl41; cases hl41
     | succ k38 =>
      rw [weight_grows.l1] at hl41
      refine WC.seq (WC.seq (WC.region ?_))
      refine seg 3 [.v (iv x34)] [3, 5, 6, 7, 8, 12, 13, 14, 20, 21] [(3, (pt g8)), (5, (pt g16)), (6, (iv x35)), (7, (iv x25)), (8, (iv (rdD p1.Primes x25 0))), (12, (sv Ad p1.Primes cd)), (13, (iv (p1.Primes.length : Int))), (14, (iv x25)), (20, (iv x34)), (21, (iv (rdD p1.Primes x25 0)))] [.cell ⟨g16, 0, none⟩ (iv x34)] (fun fb => by kernel_rfl) rfl ⟨hS40.cell 1 rfl 0 rfl, trivial⟩ ?_
      obtain ⟨h42, hl41⟩ := as_some hl41
      refine seg 5 [] [3, 5, 6, 7, 8, 12, 13, 14, 23] [(3, (pt g8)), (5, (pt g16)), (6, (iv x35)), (7, (iv x25)), (8, (iv (rdD p1.Primes x25 0))), (12, (sv Ad p1.Primes cd)), (13, (iv (p1.Primes.length : Int))), (14, (iv x25)), (23, (bv ((Int.tmod x34 (rdD p1.Primes x25 0)) == 0)))] [.ne (rdD p1.Primes x25 0)] (fun fb => by kernel_rfl) rfl ⟨h42, trivial⟩ ?_
      refine WL.done rfl (WX.next ?_)
      rcases br_some hl41 with ⟨h43, hl41⟩ | ⟨h43, hl41⟩
      ·refine WC.condT2 (fun fb => by kernel_rfl) h43 ?_
       refine WC.skip (WX.next (WC.block (WC.seq (WC.region ?_))))
       refine seg 5 [.v (iv x34)] [3, 5, 6, 7, 8, 12, 13, 14, 27, 28] [(3, (pt g8)), (5, (pt g16)), (6, (iv x35)), (7, (iv x25)), (8, (iv (rdD p1.Primes x25 0))), (12, (sv Ad p1.Primes cd)), (13, (iv (p1.Primes.length : Int))), (14, (iv x25)), (27, (iv (w64 (Int.tdiv x34 (rdD p1.Primes x25 0))))), (28, (pt g16))] [.cell ⟨g16, 0, none⟩ (iv x34), .ne (rdD p1.Primes x25 0)] (fun fb => by kernel_rfl) rfl ⟨hS40.cell 1 rfl 0 rfl, h42, trivial⟩ ?_
       refine WL.store hS40 1 rfl [(0, (iv (w64 (Int.tdiv x34 (rdD p1.Primes x25 0)))))] #[(iv (w64 (Int.tdiv x34 (rdD p1.Primes x25 0)))), (iv x23)] (fun fb => by kernel_rfl) (by kernel_rfl) rfl [0] (by decide) (by decide) (fun w44 hS45 => ?_)
       refine ⟨trivial, ?_⟩
       refine WL.done rfl (WX.next (WC.region ?_))
       refine seg 4 [.v (sv Ae p1.Logs ce)] [3, 5, 7, 8, 12, 13, 14, 29, 31, 32] [(3, (pt g8)), (5, (pt g16)), (7, (iv x25)), (8, (iv (rdD p1.Primes x25 0))), (12, (sv Ad p1.Primes cd)), (13, (iv (p1.Primes.length : Int))), (14, (iv x25)), (29, (iv x35)), (31, (sv Ae p1.Logs ce)), (32, (iv x25))] [.cell ⟨g8, 4, none⟩ (sv Ae p1.Logs ce)] (fun fb => by kernel_rfl) rfl ⟨hS45.cell 1 rfl 4 rfl, trivial⟩ ?_
       obtain ⟨h46, hl41⟩ := as_some hl41
       refine seg 8 [.v (iv (rdD p1.Logs x25 0))] [3, 5, 6, 7, 8, 12, 13, 14] [(3, (pt g8)), (5, (pt g16)), (6, (iv (w64 (x35 + (rdD p1.Logs x25 0))))), (7, (iv x25)), (8, (iv (rdD p1.Primes x25 0))), (12, (sv Ad p1.Primes cd)), (13, (iv (p1.Primes.length : Int))), (14, (iv x25))] [.idx Ae x25 p1.Logs.length, .cell ((adr Ae).add ((x25).toNat * 1)) (iv (rdD p1.Logs x25 0))] (fun fb => by kernel_rfl) rfl ⟨rowR.adr (hS45.rd 4).1 h46.1 h46.2, rowR.cell (hS45.rd 4).1 0 h46.1 h46.2 0 rfl, trivial⟩ ?_
       refine WL.done rfl ?_
       exact WX.blockN (WX.again k38 (Nat.lt_succ_self _) (w64 (Int.tdiv x34 (rdD p1.Primes x25 0)), w64 (x35 + (rdD p1.Logs x25 0))) [3, 5, 6, 7, 8, 12, 13, 14] rfl ⟨(hS45.subR [0, 1, 2, 3, 4]).sub [1, 0] (by decide), hl41⟩)
      refine WC.condF2 (fun fb => by kernel_rfl) h43 ?_
      refine WC.exit ?_
      injection hl41 with hl41
      exact WX.thenX (WX.thenX (WX.blockHere (WX.to Kx36 (x34, x35) [3, 5, 6, 7, 8, 12, 13, 14] rfl ⟨(hS40.subR [0, 1, 2, 3, 4]).sub [0, 1] (by decide), hl41.symm⟩)))
    rintro y50 w47 ⟨hS48, hq49⟩
    subst hq49
    refine WX.next ?_
    obtain ⟨x53, hx54, hl31⟩ := bind_some hl31
    refine WC.cutN (T := Int × Int) (fun t => [(3, (pt g8)), (5, (pt g16)), (6, (iv t.2)), (12, (sv Ad p1.Primes cd)), (13, (iv (p1.Primes.length : Int))), (14, (iv x25))]) (fun t w1 => St NoS w w1 [rowR enc_Frac Aa ca p1.Values, rowR enc_Frac Ab cb p1.Carries, rowR enc_Frac Ac cc p1.Factors, rowR encInt Ad cd p1.Primes, rowR encInt Ae ce p1.Logs] [blk g8 (.cells #[(sv Aa p1.Values ca), (sv Ab p1.Carries cb), (sv Ac p1.Factors cc), (sv Ad p1.Primes cd), (sv Ae p1.Logs ce)] 26 (0, 0)), blk g16 (.cells #[(iv x36.1), (iv t.1)] 47 (0, 0))] ∧ x53 = t) (fun Kx53 => ?_) ?_
    ·
     refine WC.block ?_
     refine WC.loop (T := Int × Int) (fun t => [(3, (pt g8)), (5, (pt g16)), (6, (iv t.2)), (7, (iv x25)), (8, (iv (rdD p1.Primes x25 0))), (12, (sv Ad p1.Primes cd)), (13, (iv (p1.Primes.length : Int))), (14, (iv x25))]) (fun n t w1 => St NoS w w1 [rowR enc_Frac Aa ca p1.Values, rowR enc_Frac Ab cb p1.Carries, rowR enc_Frac Ac cc p1.Factors, rowR encInt Ad cd p1.Primes, rowR encInt Ae ce p1.Logs] [blk g8 (.cells #[(sv Aa p1.Values ca), (sv Ab p1.Carries cb), (sv Ac p1.Factors cc), (sv Ad p1.Primes cd), (sv Ae p1.Logs ce)] 26 (0, 0)), blk g16 (.cells #[(iv x36.1), (iv t.1)] 47 (0, 0))] ∧ weight_grows.l2 n t.1 t.2 p1 x25 = some x53) k28 (x23, x36.2) [3, 5, 6, 7, 8, 12, 13, 14] rfl ⟨(hS48.subR [0, 1, 2, 3, 4]).sub [0, 1] (by decide), hx54⟩ ?_
     rintro k55 ⟨x51, x52⟩ w56 ⟨hS57, hl58⟩
     cases k55 with
     | zero => rw [weight_grows.l2] at hl58; cases hl58
     | succ k55 =>
      rw [weight_grows.l2] at hl58
      refine WC.seq (WC.seq (WC.region ?_))
      refine seg 3 [.v (iv x51)] [3, 5, 6, 7, 8, 12, 13, 14, 37, 38] [(3, (pt g8)), (5, (pt g16)), (6, (iv x52)), (7, (iv x25)), (8, (iv (rdD p1.Primes x25 0))), (12, (sv Ad p1.Primes cd)), (13, (iv (p1.Primes.length : Int))), (14, (iv x25)), (37, (iv x51)), (38, (iv (rdD p1.Primes x25 0)))] [.cell ⟨g16, 1, none⟩ (iv x51)] (fun fb => by kernel_rfl) rfl ⟨hS57.cell 1 rfl 1 rfl, trivial⟩ ?_
      obtain ⟨h59, hl58⟩ := as_some hl58
      refine seg 5 [] [3, 5, 6, 7, 8, 12, 13, 14, 40] [(3, (pt g8)), (5, (pt g16)), (6, (iv x52)), (7, (iv x25)), (8, (iv (rdD p1.Primes x25 0))), (12, (sv Ad p1.Primes cd)), (13, (iv (p1.Primes.length : Int))), (14, (iv x25)), (40, (bv ((Int.tmod x51 (rdD p1.Primes x25 0)) == 0)))] [.ne (rdD p1.Primes x25 0)] (fun fb => by kernel_rfl) rfl ⟨h59, trivial⟩ ?_
      refine WL.done rfl (WX.next ?_)
      rcases br_some hl58 with ⟨h60, hl58⟩ | ⟨h60, hl58⟩
      ·refine WC.condT2 (fun fb => by kernel_rfl) h60 ?_
       refine WC.skip (WX.next (WC.block (WC.seq (WC.region ?_))))
       refine seg 5 [.v (iv x51)] [3, 5, 6, 7, 8, 12, 13, 14, 44, 45] [(3, (pt g8)), (5, (pt g16)), (6, (iv x52)), (7, (iv x25)), (8, (iv (rdD p1.Primes x25 0))), (12, (sv Ad p1.Primes cd)), (13, (iv (p1.Primes.length : Int))), (14, (iv x25)), (44, (iv (w64 (Int.tdiv x51 (rdD p1.Primes x25 0))))), (45, (.pointer (some ⟨g16, 1, none⟩)))] [.cell ⟨g16, 1, none⟩ (iv x51), .ne (rdD p1.Primes x25 0)] (fun fb => by kernel_rfl) rfl ⟨hS57.cell 1 rfl 1 rfl, h59, trivial⟩ ?_
       refine WL.store hS57 1 rfl [(1, (iv (w64 (Int.tdiv x51 (rdD p1.Primes x25 0)))))] #[(iv x36.1), (iv (w64 (Int.tdiv x51 (rdD p1.Primes x25 0))))] (fun fb => by kernel_rfl) (by kernel_rfl) rfl [0] (by decide) (by decide) (fun w61 hS62 => ?_)
       refine ⟨trivial, ?_⟩
       refine WL.done rfl (WX.next (WC.region ?_))
       refine seg 4 [.v (sv Ae p1.Logs ce)] [3, 5, 7, 8, 12, 13, 14, 46, 48, 49] [(3, (pt g8)), (5, (pt g16)), (7, (iv x25)), (8, (iv (rdD p1.Primes x25 0))), (12, (sv Ad p1.Primes cd)), (13, (iv (p1.Primes.length : Int))), (14, (iv x25)), (46, (iv x52)), (48, (sv Ae p1.Logs ce)), (49, (iv x25))] [.cell ⟨g8, 4, none⟩ (sv Ae p1.Logs ce)] (fun fb => by kernel_rfl) rfl ⟨hS62.cell 1 rfl 4 rfl, trivial⟩ ?_
       obtain ⟨h63, hl58⟩ := as_some hl58
       refine seg 8 [.v (iv (rdD p1.Logs x25 0))] [3, 5, 6, 7, 8, 12, 13, 14] [(3, (pt g8)), (5, (pt g16)), (6, (iv (w64 (x52 - (rdD p1.Logs x25 0))))), (7, (iv x25)), (8, (iv (rdD p1.Primes x25 0))), (12, (sv Ad p1.Primes cd)), (13, (iv (p1.Primes.length : Int))), (14, (iv x25))] [.idx Ae x25 p1.Logs.length, .cell ((adr Ae).add ((x25).toNat * 1)) (iv (rdD p1.Logs x25 0))] (fun fb => by kernel_rfl) rfl ⟨rowR.adr (hS62.rd 4).1 h63.1 h63.2, rowR.cell (hS62.rd 4).1 0 h63.1 h63.2 0 rfl, trivial⟩ ?_
       refine WL.done rfl ?_
       exact WX.blockN (WX.again k55 (Nat.lt_succ_self _) (w64 (Int.tdiv x51 (rdD p1.Primes x25 0)), w64 (x52 - (rdD p1.Logs x25 0))) [3, 5, 6, 7, 8, 12, 13, 14] rfl ⟨(hS62.subR [0, 1, 2, 3, 4]).sub [1, 0] (by decide), hl58⟩)
      refine WC.condF2 (fun fb => by kernel_rfl) h60 ?_
      refine WC.exit ?_
      injection hl58 with hl58
      exact WX.thenX (WX.thenX (WX.blockHere (WX.to Kx53 (x51, x52) [3, 5, 6, 12, 13, 14] rfl ⟨(hS57.subR [0, 1, 2, 3, 4]).sub [0, 1] (by decide), hl58.symm⟩)))
    rintro y68 w65 ⟨hS66, hq67⟩
    subst hq67
    refine WX.blockN (WX.next ?_)
    refine WC.region ?_
    refine seg 2 [] [3, 5, 6, 12, 13, 14] [(3, (pt g8)), (5, (pt g16)), (6, (iv x53.2)), (12, (sv Ad p1.Primes cd)), (13, (iv (p1.Primes.length : Int))), (14, (iv (w64 (x25 + 1))))] [] (fun fb => by kernel_rfl) rfl trivial ?_
    refine WL.done rfl ?_
    exact WX.again k28 (Nat.lt_succ_self _) (x36.1, x53.1, x53.2, w64 (x25 + 1)) [3, 5, 6, 12, 13, 14] rfl ⟨(hS66.subR [0, 1, 2, 3, 4]).sub [0, 1] (by decide), hl31⟩
   refine WC.condF2 (fun fb => by kernel_rfl) h32 ?_
   refine WC.exit ?_
   injection hl31 with hl31
   exact WX.thenX (WX.thenX (WX.blockHere (WX.to Kx26 (x22, x23, x24) [5, 6] rfl ⟨(hS30.subR [0, 1, 2, 3, 4]).sub [1] (by decide), hl31.symm⟩)))
 rintro y72 w69 ⟨hS70, hq71⟩
 subst hq71
 refine WX.next (WC.seq (WC.region ?_))
 refine seg 4 [.v (iv x26.1)] [5, 6, 57] [(5, (pt g16)), (6, (iv x26.2.2)), (57, (bv (x26.1 == 1)))] [.cell ⟨g16, 0, none⟩ (iv x26.1)] (fun fb => by kernel_rfl) rfl ⟨hS70.cell 0 rfl 0 rfl, trivial⟩ ?_
 refine WL.cutV (T := Bool) 8 (fun t => [(61, (bv t)), (6, (iv x26.2.2))]) (fun t => ((x26.1 == 1) && (x26.2.1 == 1)) = t) (fun K => ?_) ?_
 ·
  rcases Bool.eq_false_or_eq_true (x26.1 == 1) with h73 | h73
  ·
   refine WL.setB 57 h73 rfl ?_
   refine seg 8 [.v (iv x26.2.1)] [6, 61] [(6, (iv x26.2.2)), (61, (bv (x26.2.1 == 1)))] [.cell ⟨g16, 1, none⟩ (iv x26.2.1)] (fun fb => by kernel_rfl) rfl ⟨hS70.cell 0 rfl 1 rfl, trivial⟩ ?_
   exact WL.toV K (x26.2.1 == 1) [61, 6] rfl (by first | (rw [h73]; done) | (rw [h73]; rfl))
  refine WL.setB 57 h73 rfl ?_
  refine seg 8 [] [6, 61] [(6, (iv x26.2.2)), (61, (bv false))] [] (fun fb => by kernel_rfl) rfl trivial ?_
  exact WL.toV K false [61, 6] rfl (by first | (rw [h73]; done) | (rw [h73]; rfl))
 rintro b74 rfl
 refine seg 9 [] [6, 62] [(6, (iv x26.2.2)), (62, (bv ((x26.1 == 1) && (x26.2.1 == 1))))] [] (fun fb => by kernel_rfl) rfl trivial ?_
 refine WL.cutV (T := Bool) 12 (fun t => [(65, (bv t))]) (fun t => (((x26.1 == 1) && (x26.2.1 == 1)) && (decide (x26.2.2 > 0))) = t) (fun K => ?_) ?_
 ·
  rcases Bool.eq_false_or_eq_true ((x26.1 == 1) && (x26.2.1 == 1)) with h75 | h75
  ·
   refine WL.setB 62 h75 rfl ?_
   refine seg 12 [] [65] [(65, (bv (decide (x26.2.2 > 0))))] [] (fun fb => by kernel_rfl) rfl trivial ?_
   exact WL.toV K (decide (x26.2.2 > 0)) [65] rfl (by first | (rw [h75]; done) | (rw [h75]; rfl))
  refine WL.setB 62 h75 rfl ?_
  refine seg 12 [] [65] [(65, (bv false))] [] (fun fb => by kernel_rfl) rfl trivial ?_
  exact WL.toV K false [65] rfl (by first | (rw [h75]; done) | (rw [h75]; rfl))
 rintro b76 rfl
 refine seg 13 [] [4] [(4, (bv (((x26.1 == 1) && (x26.2.1 == 1)) && (decide (x26.2.2 > 0)))))] [] (fun fb => by kernel_rfl) rfl trivial ?_
 refine WL.done rfl (WX.next ?_)
 refine WC.ret ?_
 injection hf with hf
 subst hf
 exact WX.ret_ [] (bv (((x26.1 == 1) && (x26.2.1 == 1)) && (decide (x26.2.2 > 0)))) [] (fun fb => by kernel_rfl) trivial ⟨_, rfl, rfl, hS70.keep⟩
theorem weight_Check_4_1_calls (k : Nat) (p0 : Fraction) (f0 : Weights) (ga : Nat) (Aa : Option Addr) (ca : Nat) (Ab : Option Addr) (cb : Nat) (Ac : Option Addr) (cc : Nat) (Ad : Option Addr) (cd : Nat) (Ae : Option Addr) (ce : Nat) (r : Bool) (w : World) (hR0 : RO NoS w (blk ga (.cells #[(sv Aa f0.Values ca), (sv Ab f0.Carries cb), (sv Ac f0.Factors cc), (sv Ad f0.Primes cd), (sv Ae f0.Logs ce)] 26 (0, 0)))) (hR1 : RO NoS w (rowR enc_Frac Aa ca f0.Values)) (hR2 : RO NoS w (rowR enc_Frac Ab cb f0.Carries)) (hR3 : RO NoS w (rowR enc_Frac Ac cc f0.Factors)) (hR4 : RO NoS w (rowR encInt Ad cd f0.Primes)) (hR5 : RO NoS w (rowR encInt Ae ce f0.Logs)) (hf : weight_Check_4_1 k p0 f0 = some r) :
  CallsR Tryd.prog 18 #[(.agg #[(iv p0.Num), (iv p0.Den)]), (pt ga)] w (fun v w' => v = (bv r) ∧ Keeps NoS w w') := by
 have hS : St NoS w w [blk ga (.cells #[(sv Aa f0.Values ca), (sv Ab f0.Carries cb), (sv Ac f0.Factors cc), (sv Ad f0.Primes cd), (sv Ae f0.Logs ce)] 26 (0, 0)), rowR enc_Frac Aa ca f0.Values, rowR enc_Frac Ab cb f0.Carries, rowR enc_Frac Ac cc f0.Factors, rowR encInt Ad cd f0.Primes, rowR encInt Ae ce f0.Logs] [] := St.init (ro_cons hR0 (ro_cons hR1 (ro_cons hR2 (ro_cons hR3 (ro_cons hR4 (ro_cons hR5 (ro_nil _ _)))))))
 refine enter 7 Tryd.func18 rfl Tryd.ntmps18 rfl ?_
 unfold weight_Check_4_1 at hf
 refine WC.seq (WC.region ?_)
 refine WL.new hS 2 [] (fun g => (pt g)) (.cells #[(iv p0.Num), (iv p0.Den)] 47 (0, 0)) [] (fun fb g => by kernel_rfl) trivial (fun g6 w7 hS8 => ?_)
 refine ⟨trivial, ?_⟩
 refine seg 2 [] [1, 2] [(1, (pt ga)), (2, (pt g6))] [] (fun fb => by kernel_rfl) rfl trivial ?_
 refine WL.done rfl (WX.next (WC.seq (WC.region ?_)))
 refine seg 2 [.v (iv p0.Num), .v (iv p0.Den), .v (sv Aa f0.Values ca), .v (sv Ab f0.Carries cb), .v (sv Ac f0.Factors cc), .v (sv Ad f0.Primes cd), .v (sv Ae f0.Logs ce)] [4, 5] [(4, (.agg #[(iv p0.Num), (iv p0.Den)])), (5, (.agg #[(sv Aa f0.Values ca), (sv Ab f0.Carries cb), (sv Ac f0.Factors cc), (sv Ad f0.Primes cd), (sv Ae f0.Logs ce)]))] [.cell ⟨g6, 0, none⟩ (iv p0.Num), .cell ⟨g6, 1, none⟩ (iv p0.Den), .cell ⟨ga, 0, none⟩ (sv Aa f0.Values ca), .cell ⟨ga, 1, none⟩ (sv Ab f0.Carries cb), .cell ⟨ga, 2, none⟩ (sv Ac f0.Factors cc), .cell ⟨ga, 3, none⟩ (sv Ad f0.Primes cd), .cell ⟨ga, 4, none⟩ (sv Ae f0.Logs ce)] (fun fb => by kernel_rfl) rfl ⟨hS8.cell 0 rfl 0 rfl, hS8.cell 0 rfl 1 rfl, blk_cell (hS8.rd 0).1 0 rfl, blk_cell (hS8.rd 0).1 1 rfl, blk_cell (hS8.rd 0).1 2 rfl, blk_cell (hS8.rd 0).1 3 rfl, blk_cell (hS8.rd 0).1 4 rfl, trivial⟩ ?_
 obtain ⟨t9, ht10, hf⟩ := bind_some hf
 refine WL.call (some 6) 19 #[(.agg #[(iv p0.Num), (iv p0.Den)]), (.agg #[(sv Aa f0.Values ca), (sv Ab f0.Carries cb), (sv Ac f0.Factors cc), (sv Ad f0.Primes cd), (sv Ae f0.Logs ce)])] (fun fb => by kernel_rfl) (weight_grows_calls _ (Frac.mk p0.Num p0.Den) f0 Aa ca Ab cb Ac cc Ad cd Ae ce t9 _ (hS8.rd 1) (hS8.rd 2) (hS8.rd 3) (hS8.rd 4) (hS8.rd 5) ht10) (fun v w11 hR12 => ?_)
 obtain ⟨rfl, hk_⟩ := hR12
 have hS13 := hS8.keepN hk_
 refine ⟨trivial, ?_⟩
 refine seg 4 [] [3] [(3, (bv t9))] [] (fun fb => by kernel_rfl) rfl trivial ?_
 refine WL.done rfl (WX.next ?_)
 refine WC.ret ?_
 injection hf with hf
 subst hf
 exact WX.ret_ [] (bv t9) [] (fun fb => by kernel_rfl) trivial ⟨_, rfl, rfl, hS13.keep⟩
theorem weight_all_1_of_weight_Check_4_1_calls (k : Nat) (p0 : Frac) (f0_0 : Weights) (ga : Nat) (gb : Nat) (Aa : Option Addr) (ca : Nat) (Ab : Option Addr) (cb : Nat) (Ac : Option Addr) (cc : Nat) (Ad : Option Addr) (cd : Nat) (Ae : Option Addr) (ce : Nat) (r : Bool) (w : World) (hR0 : RO NoS w (blk ga (.cells #[(.func (.func 18) #[] #[(pt gb)])] 49 (0, 0)))) (hR1 : RO NoS w (blk gb (.cells #[(sv Aa f0_0.Values ca), (sv Ab f0_0.Carries cb), (sv Ac f0_0.Factors cc), (sv Ad f0_0.Primes cd), (sv Ae f0_0.Logs ce)] 26 (0, 0)))) (hR2 : RO NoS w (rowR enc_Frac Aa ca f0_0.Values)) (hR3 : RO NoS w (rowR enc_Frac Ab cb f0_0.Carries)) (hR4 : RO NoS w (rowR enc_Frac Ac cc f0_0.Factors)) (hR5 : RO NoS w (rowR encInt Ad cd f0_0.Primes)) (hR6 : RO NoS w (rowR encInt Ae ce f0_0.Logs)) (hf : weight_all_1_of_weight_Check_4_1 k p0 f0_0 = some r) :
  CallsR Tryd.prog 37 #[(.agg #[(iv p0.Num), (iv p0.Den)]), (pt ga)] w (fun v w' => v = (bv r) ∧ Keeps NoS w w') := by
 have hS : St NoS w w [blk ga (.cells #[(.func (.func 18) #[] #[(pt gb)])] 49 (0, 0)), blk gb (.cells #[(sv Aa f0_0.Values ca), (sv Ab f0_0.Carries cb), (sv Ac f0_0.Factors cc), (sv Ad f0_0.Primes cd), (sv Ae f0_0.Logs ce)] 26 (0, 0)), rowR enc_Frac Aa ca f0_0.Values, rowR enc_Frac Ab cb f0_0.Carries, rowR enc_Frac Ac cc f0_0.Factors, rowR encInt Ad cd f0_0.Primes, rowR encInt Ae ce f0_0.Logs] [] := St.init (ro_cons hR0 (ro_cons hR1 (ro_cons hR2 (ro_cons hR3 (ro_cons hR4 (ro_cons hR5 (ro_cons hR6 (ro_nil _ _))))))))
 refine enter 8 Tryd.func37 rfl Tryd.ntmps37 rfl ?_
 unfold weight_all_1_of_weight_Check_4_1 at hf
 refine WC.seq (WC.region ?_)
 refine WL.new hS 2 [] (fun g => (pt g)) (.cells #[(iv p0.Num), (iv p0.Den)] 36 (0, 0)) [] (fun fb g => by kernel_rfl) trivial (fun g7 w8 hS9 => ?_)
 refine ⟨trivial, ?_⟩
 refine seg 2 [] [1, 2] [(1, (pt ga)), (2, (pt g7))] [] (fun fb => by kernel_rfl) rfl trivial ?_
 refine WL.done rfl (WX.next (WC.seq (WC.region ?_)))
 refine seg 2 [.v (.func (.func 18) #[] #[(pt gb)]), .v (iv p0.Num), .v (iv p0.Den)] [4, 5] [(4, (.func (.func 18) #[] #[(pt gb)])), (5, (.agg #[(iv p0.Num), (iv p0.Den)]))] [.cell ⟨ga, 0, none⟩ (.func (.func 18) #[] #[(pt gb)]), .cell ⟨g7, 0, none⟩ (iv p0.Num), .cell ⟨g7, 1, none⟩ (iv p0.Den)] (fun fb => by kernel_rfl) rfl ⟨blk_cell (hS9.rd 0).1 0 rfl, hS9.cell 0 rfl 0 rfl, hS9.cell 0 rfl 1 rfl, trivial⟩ ?_
 obtain ⟨t10, ht11, hf⟩ := bind_some hf
 refine WL.call (some 6) 18 #[(.agg #[(iv p0.Num), (iv p0.Den)]), (pt gb)] (fun fb => by kernel_rfl) (weight_Check_4_1_calls _ (Fraction.mk p0.Num p0.Den) f0_0 gb Aa ca Ab cb Ac cc Ad cd Ae ce t10 _ (hS9.rd 1) (hS9.rd 2) (hS9.rd 3) (hS9.rd 4) (hS9.rd 5) (hS9.rd 6) ht11) (fun v w12 hR13 => ?_)
 obtain ⟨rfl, hk_⟩ := hR13
 have hS14 := hS9.keepN hk_
 refine ⟨trivial, ?_⟩
 refine seg 5 [] [3] [(3, (bv (!t10)))] [] (fun fb => by kernel_rfl) rfl trivial ?_
 refine WL.done rfl (WX.next ?_)
 refine WC.ret ?_
 injection hf with hf
 subst hf
 exact WX.ret_ [] (bv (!t10)) [] (fun fb => by kernel_rfl) trivial ⟨_, rfl, rfl, hS14.keep⟩
theorem slices_IndexFunc_api_Frac_api_Frac_with_weight_all_1_of_weight_Check_4_1_calls (k : Nat) (p0 : List Frac) (p1_0_0 : Weights) (Aa : Option Addr) (ca : Nat) (ga : Nat) (gb : Nat) (Ab : Option Addr) (cb : Nat) (Ac : Option Addr) (cc : Nat) (Ad : Option Addr) (cd : Nat) (Ae : Option Addr) (ce : Nat) (Af : Option Addr) (cf : Nat) (r : Int) (w : World) (hR0 : RO NoS w (rowR enc_Frac Aa ca p0)) (hR1 : RO NoS w (blk ga (.cells #[(.func (.func 18) #[] #[(pt gb)])] 49 (0, 0)))) (hR2 : RO NoS w (blk gb (.cells #[(sv Ab p1_0_0.Values cb), (sv Ac p1_0_0.Carries cc), (sv Ad p1_0_0.Factors cd), (sv Ae p1_0_0.Primes ce), (sv Af p1_0_0.Logs cf)] 26 (0, 0)))) (hR3 : RO NoS w (rowR enc_Frac Ab cb p1_0_0.Values)) (hR4 : RO NoS w (rowR enc_Frac Ac cc p1_0_0.Carries)) (hR5 : RO NoS w (rowR enc_Frac Ad cd p1_0_0.Factors)) (hR6 : RO NoS w (rowR encInt Ae ce p1_0_0.Primes)) (hR7 : RO NoS w (rowR encInt Af cf p1_0_0.Logs)) (hf : slices_IndexFunc_api_Frac_api_Frac_with_weight_all_1_of_weight_Check_4_1 k p0 p1_0_0 = some r) :
  CallsR Tryd.prog 47 #[(sv Aa p0 ca), (.func (.func 37) #[] #[(pt ga)])] w (fun v w' => v = (iv r) ∧ Keeps NoS w w') := by
 have hS : St NoS w w [rowR enc_Frac Aa ca p0, blk ga (.cells #[(.func (.func 18) #[] #[(pt gb)])] 49 (0, 0)), blk gb (.cells #[(sv Ab p1_0_0.Values cb), (sv Ac p1_0_0.Carries cc), (sv Ad p1_0_0.Factors cd), (sv Ae p1_0_0.Primes ce), (sv Af p1_0_0.Logs cf)] 26 (0, 0)), rowR enc_Frac Ab cb p1_0_0.Values, rowR enc_Frac Ac cc p1_0_0.Carries, rowR enc_Frac Ad cd p1_0_0.Factors, rowR encInt Ae ce p1_0_0.Primes, rowR encInt Af cf p1_0_0.Logs] [] := St.init (ro_cons hR0 (ro_cons hR1 (ro_cons hR2 (ro_cons hR3 (ro_cons hR4 (ro_cons hR5 (ro_cons hR6 (ro_cons hR7 (ro_nil _ _)))))))))
 refine enter 19 Tryd.func47 rfl Tryd.ntmps47 rfl ?_
 unfold slices_IndexFunc_api_Frac_api_Frac_with_weight_all_1_of_weight_Check_4_1 at hf
 refine WC.seq (WC.region ?_)
 refine seg 1 [] [0, 1] [(0, (sv Aa p0 ca)), (1, (.func (.func 37) #[] #[(pt ga)]))] [] (fun fb => by kernel_rfl) rfl trivial ?_
 refine WL.done rfl (WX.next (WC.seq (WC.seq (WC.region ?_))))
 refine seg 3 [] [0, 1, 7, 8] [(0, (sv Aa p0 ca)), (1, (.func (.func 37) #[] #[(pt ga)])), (7, (iv (p0.length : Int))), (8, (iv 0))] [] (fun fb => by kernel_rfl) rfl trivial ?_
 refine WL.done rfl (WX.next ?_)
 obtain ⟨x9, hx10, hf⟩ := bind_some hf
 refine WC.cutN (T := Unit) (fun t => []) (fun t w1 => St NoS w w1 [rowR enc_Frac Aa ca p0, blk ga (.cells #[(.func (.func 18) #[] #[(pt gb)])] 49 (0, 0)), blk gb (.cells #[(sv Ab p1_0_0.Values cb), (sv Ac p1_0_0.Carries cc), (sv Ad p1_0_0.Factors cd), (sv Ae p1_0_0.Primes ce), (sv Af p1_0_0.Logs cf)] 26 (0, 0)), rowR enc_Frac Ab cb p1_0_0.Values, rowR enc_Frac Ac cc p1_0_0.Carries, rowR enc_Frac Ad cd p1_0_0.Factors, rowR encInt Ae ce p1_0_0.Primes, rowR encInt Af cf p1_0_0.Logs] [] ∧ x9 = .inr t) (fun Kx9 => ?_) ?_
 ·
  refine WC.block ?_
  refine WC.loop (T := Int) (fun t => [(0, (sv Aa p0 ca)), (1, (.func (.func 37) #[] #[(pt ga)])), (7, (iv (p0.length : Int))), (8, (iv t))]) (fun n t w1 => St NoS w w1 [rowR enc_Frac Aa ca p0, blk ga (.cells #[(.func (.func 18) #[] #[(pt gb)])] 49 (0, 0)), blk gb (.cells #[(sv Ab p1_0_0.Values cb), (sv Ac p1_0_0.Carries cc), (sv Ad p1_0_0.Factors cd), (sv Ae p1_0_0.Primes ce), (sv Af p1_0_0.Logs cf)] 26 (0, 0)), rowR enc_Frac Ab cb p1_0_0.Values, rowR enc_Frac Ac cc p1_0_0.Carries, rowR enc_Frac Ad cd p1_0_0.Factors, rowR encInt Ae ce p1_0_0.Primes, rowR encInt Af cf p1_0_0.Logs] [] ∧ slices_IndexFunc_api_Frac_api_Frac_with_weight_all_1_of_weight_Check_4_1.l0 n t p0 p1_0_0 = some x9) k 0 [0, 1, 7, 8] rfl ⟨(hS.subR [0, 1, 2, 3, 4, 5, 6, 7]).sub [] (by decide), hx10⟩ ?_
  rintro k11 x8 w12 ⟨hS13, hl14⟩
  cases k11 with
  | zero => rw [slices_IndexFunc_api_Frac_api_Frac_with_weight_all_1_of_weight_Check_4_1.l0] at hl14; cases hl14
  | succ k11 =>
   rw [slices_IndexFunc_api_Frac_api_Frac_with_weight_all_1_of_weight_Check_4_1.l0] at hl14
   refine WC.seq (WC.region ?_)
   refine seg 1 [] [0, 1, 7, 8, 9] [(0, (sv Aa p0 ca)), (1, (.func (.func 37) #[] #[(pt ga)])), (7, (iv (p0.length : Int))), (8, (iv x8)), (9, (bv (decide (x8 < (p0.length : Int)))))] [] (fun fb => by kernel_rfl) rfl trivial ?_
   refine WL.done rfl (WX.next (WC.seq ?_))
   rcases br_some hl14 with ⟨h15, hl14⟩ | ⟨h15, hl14⟩
   ·refine WC.condT2 (fun fb => by kernel_rfl) h15 ?_
    refine WC.skip (WX.next (WC.seq (WC.block (WC.seq (WC.region ?_)))))
    refine seg 2 [] [0, 1, 5, 7, 8] [(0, (sv Aa p0 ca)), (1, (.func (.func 37) #[] #[(pt ga)])), (5, (iv x8)), (7, (iv (p0.length : Int))), (8, (iv x8))] [] (fun fb => by kernel_rfl) rfl trivial ?_
    refine WL.done rfl (WX.next (WC.seq (WC.region ?_)))
    refine seg 3 [] [0, 1, 5, 7, 8, 11, 12, 13] [(0, (sv Aa p0 ca)), (1, (.func (.func 37) #[] #[(pt ga)])), (5, (iv x8)), (7, (iv (p0.length : Int))), (8, (iv x8)), (11, (.func (.func 37) #[] #[(pt ga)])), (12, (sv Aa p0 ca)), (13, (iv x8))] [] (fun fb => by kernel_rfl) rfl trivial ?_
    obtain ⟨h16, hl14⟩ := as_some hl14
    refine seg 5 [.v (iv ((rdD p0 x8 z_Frac).Num)), .v (iv ((rdD p0 x8 z_Frac).Den))] [0, 1, 5, 7, 8, 11, 15] [(0, (sv Aa p0 ca)), (1, (.func (.func 37) #[] #[(pt ga)])), (5, (iv x8)), (7, (iv (p0.length : Int))), (8, (iv x8)), (11, (.func (.func 37) #[] #[(pt ga)])), (15, (.agg #[(iv ((rdD p0 x8 z_Frac).Num)), (iv ((rdD p0 x8 z_Frac).Den))]))] [.idx Aa x8 p0.length, .cell ((adr Aa).add ((x8).toNat * 2)) (iv ((rdD p0 x8 z_Frac).Num)), .cell (((adr Aa).add ((x8).toNat * 2)).add 1) (iv ((rdD p0 x8 z_Frac).Den))] (fun fb => by kernel_rfl) rfl ⟨rowR.adr (hS13.rd 0).1 h16.1 h16.2, rowR.cell (hS13.rd 0).1 z_Frac h16.1 h16.2 0 rfl, rowR.cell (hS13.rd 0).1 z_Frac h16.1 h16.2 1 rfl, trivial⟩ ?_
    obtain ⟨t17, ht18, hl14⟩ := bind_some hl14
    refine WL.call (some 16) 37 #[(.agg #[(iv ((rdD p0 x8 z_Frac).Num)), (iv ((rdD p0 x8 z_Frac).Den))]), (pt ga)] (fun fb => by kernel_rfl) (weight_all_1_of_weight_Check_4_1_calls _ (rdD p0 x8 z_Frac) p1_0_0 ga gb Ab cb Ac cc Ad cd Ae ce Af cf t17 _ (hS13.rd 1) (hS13.rd 2) (hS13.rd 3) (hS13.rd 4) (hS13.rd 5) (hS13.rd 6) (hS13.rd 7) ht18) (fun v w19 hR20 => ?_)
    obtain ⟨rfl, hk_⟩ := hR20
    have hS21 := hS13.keepN hk_
    refine ⟨trivial, ?_⟩
    refine WL.done rfl (WX.next ?_)
    rcases br_some hl14 with ⟨h22, hl14⟩ | ⟨h22, hl14⟩
    ·refine WC.condT2 (fun fb => by kernel_rfl) h22 ?_
     refine WC.seq (WC.region ?_)
     refine seg 2 [] [4] [(4, (iv x8))] [] (fun fb => by kernel_rfl) rfl trivial ?_
     refine WL.done rfl (WX.next ?_)
     refine WC.ret ?_
     injection hl14 with hl14
     subst hl14
     injection hf with hf
     subst hf
     exact WX.blockR (WX.thenR (WX.thenR (WX.blockR (WX.thenR (WX.ret_ [] (iv x8) [] (fun fb => by kernel_rfl) trivial ⟨_, rfl, rfl, hS21.keep⟩)))))
    refine WC.condF2 (fun fb => by kernel_rfl) h22 ?_
    refine WC.skip ?_
    refine WX.blockN (WX.next ?_)
    refine WC.region ?_
    refine seg 2 [] [0, 1, 7, 8] [(0, (sv Aa p0 ca)), (1, (.func (.func 37) #[] #[(pt ga)])), (7, (iv (p0.length : Int))), (8, (iv (w64 (x8 + 1))))] [] (fun fb => by kernel_rfl) rfl trivial ?_
    refine WL.done rfl ?_
    exact WX.again k11 (Nat.lt_succ_self _) (w64 (x8 + 1)) [0, 1, 7, 8] rfl ⟨(hS21.subR [0, 1, 2, 3, 4, 5, 6, 7]).sub [] (by decide), hl14⟩
   refine WC.condF2 (fun fb => by kernel_rfl) h15 ?_
   refine WC.exit ?_
   injection hl14 with hl14
   exact WX.thenX (WX.thenX (WX.blockHere (WX.to Kx9 () [] rfl ⟨(hS13.subR [0, 1, 2, 3, 4, 5, 6, 7]).sub [] (by decide), hl14.symm⟩)))
 rintro y26 w23 ⟨hS24, hq25⟩
 subst hq25
 have hf := sum_inr hf
 refine WX.next (WC.seq (WC.region ?_))
 refine seg 1 [] [4] [(4, (iv (-1)))] [] (fun fb => by kernel_rfl) rfl trivial ?_
 refine WL.done rfl (WX.next ?_)
 refine WC.ret ?_
 injection hf with hf
 subst hf
 exact WX.ret_ [] (iv (-1)) [] (fun fb => by kernel_rfl) trivial ⟨_, rfl, rfl, hS24.keep⟩
theorem slices_ContainsFunc_api_Frac_api_Frac_with_weight_all_1_of_weight_Check_4_1_calls (k : Nat) (p0 : List Frac) (p1_0_0 : Weights) (Aa : Option Addr) (ca : Nat) (ga : Nat) (gb : Nat) (Ab : Option Addr) (cb : Nat) (Ac : Option Addr) (cc : Nat) (Ad : Option Addr) (cd : Nat) (Ae : Option Addr) (ce : Nat) (Af : Option Addr) (cf : Nat) (r : Bool) (w : World) (hR0 : RO NoS w (rowR enc_Frac Aa ca p0)) (hR1 : RO NoS w (blk ga (.cells #[(.func (.func 18) #[] #[(pt gb)])] 49 (0, 0)))) (hR2 : RO NoS w (blk gb (.cells #[(sv Ab p1_0_0.Values cb), (sv Ac p1_0_0.Carries cc), (sv Ad p1_0_0.Factors cd), (sv Ae p1_0_0.Primes ce), (sv Af p1_0_0.Logs cf)] 26 (0, 0)))) (hR3 : RO NoS w (rowR enc_Frac Ab cb p1_0_0.Values)) (hR4 : RO NoS w (rowR enc_Frac Ac cc p1_0_0.Carries)) (hR5 : RO NoS w (rowR enc_Frac Ad cd p1_0_0.Factors)) (hR6 : RO NoS w (rowR encInt Ae ce p1_0_0.Primes)) (hR7 : RO NoS w (rowR encInt Af cf p1_0_0.Logs)) (hf : slices_ContainsFunc_api_Frac_api_Frac_with_weight_all_1_of_weight_Check_4_1 k p0 p1_0_0 = some r) :
  CallsR Tryd.prog 36 #[(sv Aa p0 ca), (.func (.func 37) #[] #[(pt ga)])] w (fun v w' => v = (bv r) ∧ Keeps NoS w w') := by
 have hS : St NoS w w [rowR enc_Frac Aa ca p0, blk ga (.cells #[(.func (.func 18) #[] #[(pt gb)])] 49 (0, 0)), blk gb (.cells #[(sv Ab p1_0_0.Values cb), (sv Ac p1_0_0.Carries cc), (sv Ad p1_0_0.Factors cd), (sv Ae p1_0_0.Primes ce), (sv Af p1_0_0.Logs cf)] 26 (0, 0)), rowR enc_Frac Ab cb p1_0_0.Values, rowR enc_Frac Ac cc p1_0_0.Carries, rowR enc_Frac Ad cd p1_0_0.Factors, rowR encInt Ae ce p1_0_0.Primes, rowR encInt Af cf p1_0_0.Logs] [] := St.init (ro_cons hR0 (ro_cons hR1 (ro_cons hR2 (ro_cons hR3 (ro_cons hR4 (ro_cons hR5 (ro_cons hR6 (ro_cons hR7 (ro_nil _ _)))))))))
 refine enter 9 Tryd.func36 rfl Tryd.ntmps36 rfl ?_
 unfold slices_ContainsFunc_api_Frac_api_Frac_with_weight_all_1_of_weight_Check_4_1 at hf
 refine WC.seq (WC.region ?_)
 refine seg 1 [] [0, 1] [(0, (sv Aa p0 ca)), (1, (.func (.func 37) #[] #[(pt ga)]))] [] (fun fb => by kernel_rfl) rfl trivial ?_
 refine WL.done rfl (WX.next (WC.seq (WC.region ?_)))
 refine seg 2 [] [5, 6] [(5, (sv Aa p0 ca)), (6, (.func (.func 37) #[] #[(pt ga)]))] [] (fun fb => by kernel_rfl) rfl trivial ?_
 obtain ⟨t8, ht9, hf⟩ := bind_some hf
 refine WL.call (some 7) 47 #[(sv Aa p0 ca), (.func (.func 37) #[] #[(pt ga)])] (fun fb => by kernel_rfl) (slices_IndexFunc_api_Frac_api_Frac_with_weight_all_1_of_weight_Check_4_1_calls _ p0 p1_0_0 Aa ca ga gb Ab cb Ac cc Ad cd Ae ce Af cf t8 _ (hS.rd 0) (hS.rd 1) (hS.rd 2) (hS.rd 3) (hS.rd 4) (hS.rd 5) (hS.rd 6) (hS.rd 7) ht9) (fun v w10 hR11 => ?_)
 obtain ⟨rfl, hk_⟩ := hR11
 have hS12 := hS.keepN hk_
 refine ⟨trivial, ?_⟩
 refine seg 5 [] [4] [(4, (bv (decide (t8 ≥ 0))))] [] (fun fb => by kernel_rfl) rfl trivial ?_
 refine WL.done rfl (WX.next ?_)
 refine WC.ret ?_
 injection hf with hf
 subst hf
 exact WX.ret_ [] (bv (decide (t8 ≥ 0))) [] (fun fb => by kernel_rfl) trivial ⟨_, rfl, rfl, hS12.keep⟩
theorem weight_all_with_weight_Check_4_1_calls (k : Nat) (p0 : List Frac) (p1_0 : Weights) (Aa : Option Addr) (ca : Nat) (ga : Nat) (Ab : Option Addr) (cb : Nat) (Ac : Option Addr) (cc : Nat) (Ad : Option Addr) (cd : Nat) (Ae : Option Addr) (ce : Nat) (Af : Option Addr) (cf : Nat) (r : Bool) (w : World) (hR0 : RO NoS w (rowR enc_Frac Aa ca p0)) (hR1 : RO NoS w (blk ga (.cells #[(sv Ab p1_0.Values cb), (sv Ac p1_0.Carries cc), (sv Ad p1_0.Factors cd), (sv Ae p1_0.Primes ce), (sv Af p1_0.Logs cf)] 26 (0, 0)))) (hR2 : RO NoS w (rowR enc_Frac Ab cb p1_0.Values)) (hR3 : RO NoS w (rowR enc_Frac Ac cc p1_0.Carries)) (hR4 : RO NoS w (rowR enc_Frac Ad cd p1_0.Factors)) (hR5 : RO NoS w (rowR encInt Ae ce p1_0.Primes)) (hR6 : RO NoS w (rowR encInt Af cf p1_0.Logs)) (hf : weight_all_with_weight_Check_4_1 k p0 p1_0 = some r) :
  CallsR Tryd.prog 17 #[(sv Aa p0 ca), (.func (.func 18) #[] #[(pt ga)])] w (fun v w' => v = (bv r) ∧ Keeps NoS w w') := by
 have hS : St NoS w w [rowR enc_Frac Aa ca p0, blk ga (.cells #[(sv Ab p1_0.Values cb), (sv Ac p1_0.Carries cc), (sv Ad p1_0.Factors cd), (sv Ae p1_0.Primes ce), (sv Af p1_0.Logs cf)] 26 (0, 0)), rowR enc_Frac Ab cb p1_0.Values, rowR enc_Frac Ac cc p1_0.Carries, rowR enc_Frac Ad cd p1_0.Factors, rowR encInt Ae ce p1_0.Primes, rowR encInt Af cf p1_0.Logs] [] := St.init (ro_cons hR0 (ro_cons hR1 (ro_cons hR2 (ro_cons hR3 (ro_cons hR4 (ro_cons hR5 (ro_cons hR6 (ro_nil _ _))))))))
 refine enter 9 Tryd.func17 rfl Tryd.ntmps17 rfl ?_
 unfold weight_all_with_weight_Check_4_1 at hf
 refine WC.seq (WC.region ?_)
 refine WL.new hS 3 [] (fun g => (pt g)) (.cells #[(.func (.func 18) #[] #[(pt ga)])] 49 (0, 0)) [] (fun fb g => by kernel_rfl) trivial (fun g7 w8 hS9 => ?_)
 refine ⟨trivial, ?_⟩
 refine seg 2 [] [0, 3] [(0, (sv Aa p0 ca)), (3, (pt g7))] [] (fun fb => by kernel_rfl) rfl trivial ?_
 refine WL.done rfl (WX.next (WC.seq (WC.region ?_)))
 refine seg 2 [] [5, 6] [(5, (sv Aa p0 ca)), (6, (.func (.func 37) #[] #[(pt g7)]))] [] (fun fb => by kernel_rfl) rfl trivial ?_
 obtain ⟨t10, ht11, hf⟩ := bind_some hf
 refine WL.call (some 7) 36 #[(sv Aa p0 ca), (.func (.func 37) #[] #[(pt g7)])] (fun fb => by kernel_rfl) (slices_ContainsFunc_api_Frac_api_Frac_with_weight_all_1_of_weight_Check_4_1_calls _ p0 p1_0 Aa ca g7 ga Ab cb Ac cc Ad cd Ae ce Af cf t10 _ (hS9.rd 0) (hS9.ow 0) (hS9.rd 1) (hS9.rd 2) (hS9.rd 3) (hS9.rd 4) (hS9.rd 5) (hS9.rd 6) ht11) (fun v w12 hR13 => ?_)
 obtain ⟨rfl, hk_⟩ := hR13
 have hS14 := hS9.keepN hk_
 refine ⟨trivial, ?_⟩
 refine seg 5 [] [4] [(4, (bv (!t10)))] [] (fun fb => by kernel_rfl) rfl trivial ?_
 refine WL.done rfl (WX.next ?_)
 refine WC.ret ?_
 injection hf with hf
 subst hf
 exact WX.ret_ [] (bv (!t10)) [] (fun fb => by kernel_rfl) trivial ⟨_, rfl, rfl, hS14.keep⟩
theorem weight_Check_4_calls (k : Nat) (f0 : Weights) (ga : Nat) (Aa : Option Addr) (ca : Nat) (Ab : Option Addr) (cb : Nat) (Ac : Option Addr) (cc : Nat) (Ad : Option Addr) (cd : Nat) (Ae : Option Addr) (ce : Nat) (r : Bool) (w : World) (hR0 : RO NoS w (blk ga (.cells #[(sv Aa f0.Values ca), (sv Ab f0.Carries cb), (sv Ac f0.Factors cc), (sv Ad f0.Primes cd), (sv Ae f0.Logs ce)] 26 (0, 0)))) (hR1 : RO NoS w (rowR enc_Frac Aa ca f0.Values)) (hR2 : RO NoS w (rowR enc_Frac Ab cb f0.Carries)) (hR3 : RO NoS w (rowR enc_Frac Ac cc f0.Factors)) (hR4 : RO NoS w (rowR encInt Ad cd f0.Primes)) (hR5 : RO NoS w (rowR encInt Ae ce f0.Logs)) (hf : weight_Check_4 k f0 = some r) :
  CallsR Tryd.prog 16 #[(pt ga)] w (fun v w' => v = (bv r) ∧ Keeps NoS w w') := by
 have hS : St NoS w w [blk ga (.cells #[(sv Aa f0.Values ca), (sv Ab f0.Carries cb), (sv Ac f0.Factors cc), (sv Ad f0.Primes cd), (sv Ae f0.Logs ce)] 26 (0, 0)), rowR enc_Frac Aa ca f0.Values, rowR enc_Frac Ab cb f0.Carries, rowR enc_Frac Ac cc f0.Factors, rowR encInt Ad cd f0.Primes, rowR encInt Ae ce f0.Logs] [] := St.init (ro_cons hR0 (ro_cons hR1 (ro_cons hR2 (ro_cons hR3 (ro_cons hR4 (ro_cons hR5 (ro_nil _ _)))))))
 refine enter 6 Tryd.func16 rfl Tryd.ntmps16 rfl ?_
 unfold weight_Check_4 at hf
 refine WC.seq (WC.region ?_)
 refine seg 1 [] [0] [(0, (pt ga))] [] (fun fb => by kernel_rfl) rfl trivial ?_
 refine WL.done rfl (WX.next (WC.seq (WC.region ?_)))
 refine seg 3 [.v (sv Ac f0.Factors cc)] [3, 4] [(3, (sv Ac f0.Factors cc)), (4, (.func (.func 18) #[] #[(pt ga)]))] [.cell ⟨ga, 2, none⟩ (sv Ac f0.Factors cc)] (fun fb => by kernel_rfl) rfl ⟨blk_cell (hS.rd 0).1 2 rfl, trivial⟩ ?_
 obtain ⟨t6, ht7, hf⟩ := bind_some hf
 refine WL.call (some 5) 17 #[(sv Ac f0.Factors cc), (.func (.func 18) #[] #[(pt ga)])] (fun fb => by kernel_rfl) (weight_all_with_weight_Check_4_1_calls _ f0.Factors f0 Ac cc ga Aa ca Ab cb Ac cc Ad cd Ae ce t6 _ (hS.rd 3) (hS.rd 0) (hS.rd 1) (hS.rd 2) (hS.rd 3) (hS.rd 4) (hS.rd 5) ht7) (fun v w8 hR9 => ?_)
 obtain ⟨rfl, hk_⟩ := hR9
 have hS10 := hS.keepN hk_
 refine ⟨trivial, ?_⟩
 refine seg 5 [] [1] [(1, (bv t6))] [] (fun fb => by kernel_rfl) rfl trivial ?_
 refine WL.done rfl (WX.next ?_)
 refine WC.ret ?_
 injection hf with hf
 subst hf
 exact WX.ret_ [] (bv t6) [] (fun fb => by kernel_rfl) trivial ⟨_, rfl, rfl, hS10.keep⟩
theorem weight_Check_calls (k : Nat) (p0 : List Tile) (p1 : Weights) (Aa : Option Addr) (ca : Nat) (Ab : Option Addr) (cb : Nat) (Ac : Option Addr) (cc : Nat) (Ad : Option Addr) (cd : Nat) (Ae : Option Addr) (ce : Nat) (Af : Option Addr) (cf : Nat) (r : Bool × Int) (w : World) (hR0 : RO NoS w (rowR enc_Tile Aa ca p0)) (hR1 : RO NoS w (rowR enc_Frac Ab cb p1.Values)) (hR2 : RO NoS w (rowR enc_Frac Ac cc p1.Carries)) (hR3 : RO NoS w (rowR enc_Frac Ad cd p1.Factors)) (hR4 : RO NoS w (rowR encInt Ae ce p1.Primes)) (hR5 : RO NoS w (rowR encInt Af cf p1.Logs)) (hR6 : RO NoS w (tabO 0 #[(.int .u64 2305843009213693951), (.int .u64 2305843009213693921), (.int .u64 2305843009213693907)])) (hf : weight_Check k p0 p1 = some r) :
  CallsR Tryd.prog 5 #[(sv Aa p0 ca), (.agg #[(sv Ab p1.Values cb), (sv Ac p1.Carries cc), (sv Ad p1.Factors cd), (sv Ae p1.Primes ce), (sv Af p1.Logs cf)])] w (fun v w' => v = (.tuple #[(bv r.1), (iv r.2)]) ∧ Keeps NoS w w') := by
 have hS : St NoS w w [rowR enc_Tile Aa ca p0, rowR enc_Frac Ab cb p1.Values, rowR enc_Frac Ac cc p1.Carries, rowR enc_Frac Ad cd p1.Factors, rowR encInt Ae ce p1.Primes, rowR encInt Af cf p1.Logs, tabO 0 #[(.int .u64 2305843009213693951), (.int .u64 2305843009213693921), (.int .u64 2305843009213693907)]] [] := St.init (ro_cons hR0 (ro_cons hR1 (ro_cons hR2 (ro_cons hR3 (ro_cons hR4 (ro_cons hR5 (ro_cons hR6 (ro_nil _ _))))))))
 refine enter 28 Tryd.func5 rfl Tryd.ntmps5 rfl ?_
 unfold weight_Check at hf
 refine WC.seq (WC.region ?_)
 refine WL.new hS 2 [] (fun g => (pt g)) (.cells #[(sv Aa p0 ca)] 22 (0, 0)) [] (fun fb g => by kernel_rfl) trivial (fun g79 w80 hS81 => ?_)
 refine ⟨trivial, ?_⟩
 refine WL.new hS81 3 [] (fun g => (pt g)) (.cells #[(sv Ab p1.Values cb), (sv Ac p1.Carries cc), (sv Ad p1.Factors cd), (sv Ae p1.Primes ce), (sv Af p1.Logs cf)] 26 (0, 0)) [] (fun fb g => by kernel_rfl) trivial (fun g83 w84 hS85 => ?_)
 refine ⟨trivial, ?_⟩
 refine seg 4 [] [2, 3] [(2, (pt g79)), (3, (pt g83))] [] (fun fb => by kernel_rfl) rfl trivial ?_
 refine WL.done rfl (WX.next (WC.seq (WC.seq (WC.region ?_))))
 refine seg 2 [.v (sv Aa p0 ca), .v (sv Ab p1.Values cb), .v (sv Ac p1.Carries cc), .v (sv Ad p1.Factors cd), .v (sv Ae p1.Primes ce), .v (sv Af p1.Logs cf)] [2, 3, 9, 10] [(2, (pt g79)), (3, (pt g83)), (9, (sv Aa p0 ca)), (10, (.agg #[(sv Ab p1.Values cb), (sv Ac p1.Carries cc), (sv Ad p1.Factors cd), (sv Ae p1.Primes ce), (sv Af p1.Logs cf)]))] [.cell ⟨g79, 0, none⟩ (sv Aa p0 ca), .cell ⟨g83, 0, none⟩ (sv Ab p1.Values cb), .cell ⟨g83, 1, none⟩ (sv Ac p1.Carries cc), .cell ⟨g83, 2, none⟩ (sv Ad p1.Factors cd), .cell ⟨g83, 3, none⟩ (sv Ae p1.Primes ce), .cell ⟨g83, 4, none⟩ (sv Af p1.Logs cf)] (fun fb => by kernel_rfl) rfl ⟨hS85.cell 1 rfl 0 rfl, hS85.cell 0 rfl 0 rfl, hS85.cell 0 rfl 1 rfl, hS85.cell 0 rfl 2 rfl, hS85.cell 0 rfl 3 rfl, hS85.cell 0 rfl 4 rfl, trivial⟩ ?_
 obtain ⟨t7, ht8, hf⟩ := bind_some hf
 refine WL.call (some 11) 9 #[(sv Aa p0 ca), (.agg #[(sv Ab p1.Values cb), (sv Ac p1.Carries cc), (sv Ad p1.Factors cd), (sv Ae p1.Primes ce), (sv Af p1.Logs cf)])] (fun fb => by kernel_rfl) (weight_Valid_calls _ p0 p1 Aa ca Ab cb Ac cc Ad cd Ae ce Af cf t7 _ (hS85.rd 0) (hS85.rd 1) (hS85.rd 2) (hS85.rd 3) (hS85.rd 4) (hS85.rd 5) ht8) (fun v w9 hR10 => ?_)
 obtain ⟨rfl, hk_⟩ := hR10
 have hS11 := hS85.keepN hk_
 refine ⟨trivial, ?_⟩
 refine seg 4 [] [2, 3, 12] [(2, (pt g79)), (3, (pt g83)), (12, (bv (!t7)))] [] (fun fb => by kernel_rfl) rfl trivial ?_
 refine WL.done rfl (WX.next ?_)
 rcases br_some hf with ⟨h12, hf⟩ | ⟨h12, hf⟩
 ·refine WC.condT2 (fun fb => by kernel_rfl) h12 ?_
  refine WC.seq (WC.region ?_)
  refine seg 2 [] [4, 5] [(4, (bv false)), (5, (iv 1))] [] (fun fb => by kernel_rfl) rfl trivial ?_
  refine WL.done rfl (WX.next ?_)
  refine WC.ret ?_
  injection hf with hf
  subst hf
  exact WX.thenR (WX.ret_ [] (.tuple #[(bv false), (iv 1)]) [] (fun fb => by kernel_rfl) trivial ⟨_, rfl, rfl, hS11.keep⟩)
 refine WC.condF2 (fun fb => by kernel_rfl) h12 ?_
 refine WC.skip (WX.next (WC.seq (WC.region ?_)))
 refine seg 4 [] [13, 14, 15, 16] [(13, (.func (.func 10) #[] #[(pt g79), (pt g83)])), (14, (.func (.func 12) #[] #[(pt g79), (pt g83)])), (15, (.func (.func 14) #[] #[(pt g79), (pt g83)])), (16, (.func (.func 16) #[] #[(pt g83)]))] [] (fun fb => by kernel_rfl) rfl trivial ?_
 refine WL.new hS11 17 [] (fun g => (.slice (some ⟨g, 0, none⟩) 4 4)) (.cells #[(.func (.func 10) #[] #[(pt g79), (pt g83)]), (.func (.func 12) #[] #[(pt g79), (pt g83)]), (.func (.func 14) #[] #[(pt g79), (pt g83)]), (.func (.func 16) #[] #[(pt g83)])] 29 (0, 0)) [] (fun fb g => by kernel_rfl) trivial (fun g13 w14 hS15 => ?_)
 refine ⟨trivial, ?_⟩
 refine seg 6 [] [6] [(6, (.slice (some ⟨g13, 0, none⟩) 4 4))] [] (fun fb => by kernel_rfl) rfl trivial ?_
 refine WL.done rfl (WX.next (WC.seq (WC.seq (WC.region ?_))))
 refine seg 3 [] [18, 19, 20] [(18, (.slice (some ⟨g13, 0, none⟩) 4 4)), (19, (iv 4)), (20, (iv 0))] [] (fun fb => by kernel_rfl) rfl trivial ?_
 refine WL.done rfl (WX.next ?_)
 obtain ⟨x17, hx18, hf⟩ := bind_some hf
 refine WC.cutN (T := Unit) (fun t => []) (fun t w1 => St NoS w w1 [rowR enc_Tile Aa ca p0, rowR enc_Frac Ab cb p1.Values, rowR enc_Frac Ac cc p1.Carries, rowR enc_Frac Ad cd p1.Factors, rowR encInt Ae ce p1.Primes, rowR encInt Af cf p1.Logs, tabO 0 #[(.int .u64 2305843009213693951), (.int .u64 2305843009213693921), (.int .u64 2305843009213693907)]] [] ∧ x17 = .inr t) (fun Kx17 => ?_) ?_
 ·
  refine WC.block ?_
  refine WC.loop (T := Int) (fun t => [(18, (.slice (some ⟨g13, 0, none⟩) 4 4)), (19, (iv 4)), (20, (iv t))]) (fun n t w1 => St NoS w w1 [rowR enc_Tile Aa ca p0, rowR enc_Frac Ab cb p1.Values, rowR enc_Frac Ac cc p1.Carries, rowR enc_Frac Ad cd p1.Factors, rowR encInt Ae ce p1.Primes, rowR encInt Af cf p1.Logs, tabO 0 #[(.int .u64 2305843009213693951), (.int .u64 2305843009213693921), (.int .u64 2305843009213693907)]] [blk g13 (.cells #[(.func (.func 10) #[] #[(pt g79), (pt g83)]), (.func (.func 12) #[] #[(pt g79), (pt g83)]), (.func (.func 14) #[] #[(pt g79), (pt g83)]), (.func (.func 16) #[] #[(pt g83)])] 29 (0, 0)), blk g79 (.cells #[(sv Aa p0 ca)] 22 (0, 0)), blk g83 (.cells #[(sv Ab p1.Values cb), (sv Ac p1.Carries cc), (sv Ad p1.Factors cd), (sv Ae p1.Primes ce), (sv Af p1.Logs cf)] 26 (0, 0))] ∧ weight_Check.l0 n t p0 p1 = some x17) k 0 [18, 19, 20] rfl ⟨(hS15.subR [0, 1, 2, 3, 4, 5, 6]).sub [0, 2, 1] (by decide), hx18⟩ ?_
  rintro k19 x16 w20 ⟨hS21, hl22⟩
  cases k19 with
  | zero => rw [weight_Check.l0] at hl22; cases hl22
  | succ k19 =>
   rw [weight_Check.l0] at hl22
   refine WC.seq (WC.region ?_)
   refine seg 1 [] [18, 19, 20, 21] [(18, (.slice (some ⟨g13, 0, none⟩) 4 4)), (19, (iv 4)), (20, (iv x16)), (21, (bv (decide (x16 < 4))))] [] (fun fb => by kernel_rfl) rfl trivial ?_
   refine WL.done rfl (WX.next (WC.seq ?_))
   rcases br_some hl22 with ⟨h23, hl22⟩ | ⟨h23, hl22⟩
   ·refine WC.condT2 (fun fb => by kernel_rfl) h23 ?_
    refine WC.skip (WX.next (WC.seq (WC.block (WC.seq (WC.region ?_)))))
    rcases br_some hl22 with ⟨h24, hl22⟩ | ⟨h24, hl22⟩
    ·
     refine WL.setI 20 (eq_of_beq h24) rfl ?_
     refine seg 1 [] [18, 19, 20, 22] [(18, (.slice (some ⟨g13, 0, none⟩) 4 4)), (19, (iv 4)), (20, (iv 0)), (22, (pt g13))] [.idx (some ⟨g13, 0, none⟩) 0 4] (fun fb => by kernel_rfl) rfl ⟨⟨by decide, by decide, rfl⟩, trivial⟩ ?_
     refine WL.setI 20 (eq_of_beq h24).symm rfl ?_
     refine seg 3 [.v (.func (.func 10) #[] #[(pt g79), (pt g83)])] [8, 18, 19, 20] [(8, (.func (.func 10) #[] #[(pt g79), (pt g83)])), (18, (.slice (some ⟨g13, 0, none⟩) 4 4)), (19, (iv 4)), (20, (iv x16))] [.cell ⟨g13, 0, none⟩ (.func (.func 10) #[] #[(pt g79), (pt g83)])] (fun fb => by kernel_rfl) rfl ⟨hS21.cell 0 rfl 0 rfl, trivial⟩ ?_
     refine WL.done rfl (WX.next (WC.seq (WC.region ?_)))
     refine seg 1 [] [18, 19, 20, 24] [(18, (.slice (some ⟨g13, 0, none⟩) 4 4)), (19, (iv 4)), (20, (iv x16)), (24, (.func (.func 10) #[] #[(pt g79), (pt g83)]))] [] (fun fb => by kernel_rfl) rfl trivial ?_
     obtain ⟨t25, ht26, hl22⟩ := bind_some hl22
     refine WL.call (some 25) 10 #[(pt g79), (pt g83)] (fun fb => by kernel_rfl) (weight_Check_1_calls _ p0 p1 g79 Aa ca g83 Ab cb Ac cc Ad cd Ae ce Af cf t25 _ (hS21.ow 1) (hS21.rd 0) (hS21.ow 2) (hS21.rd 1) (hS21.rd 2) (hS21.rd 3) (hS21.rd 4) (hS21.rd 5) (hS21.rd 6) ht26) (fun v w27 hR28 => ?_)
     obtain ⟨rfl, hk_⟩ := hR28
     have hS29 := hS21.keepN hk_
     refine ⟨trivial, ?_⟩
     refine seg 3 [] [18, 19, 20, 26] [(18, (.slice (some ⟨g13, 0, none⟩) 4 4)), (19, (iv 4)), (20, (iv x16)), (26, (bv (!t25)))] [] (fun fb => by kernel_rfl) rfl trivial ?_
     refine WL.done rfl (WX.next ?_)
     rcases br_some hl22 with ⟨h30, hl22⟩ | ⟨h30, hl22⟩
     ·refine WC.condT2 (fun fb => by kernel_rfl) h30 ?_
      refine WC.seq (WC.region ?_)
      refine seg 2 [] [4, 5] [(4, (bv false)), (5, (iv 0))] [] (fun fb => by kernel_rfl) rfl trivial ?_
      refine WL.done rfl (WX.next ?_)
      refine WC.ret ?_
      injection hl22 with hl22
      subst hl22
      injection hf with hf
      subst hf
      exact WX.blockR (WX.thenR (WX.thenR (WX.blockR (WX.thenR (WX.ret_ [] (.tuple #[(bv false), (iv 0)]) [] (fun fb => by kernel_rfl) trivial ⟨_, rfl, rfl, hS29.keep⟩)))))
     refine WC.condF2 (fun fb => by kernel_rfl) h30 ?_
     refine WC.skip ?_
     refine WX.blockN (WX.next ?_)
     refine WC.region ?_
     refine seg 2 [] [18, 19, 20] [(18, (.slice (some ⟨g13, 0, none⟩) 4 4)), (19, (iv 4)), (20, (iv (w64 (x16 + 1))))] [] (fun fb => by kernel_rfl) rfl trivial ?_
     refine WL.done rfl ?_
     exact WX.again k19 (Nat.lt_succ_self _) (w64 (x16 + 1)) [18, 19, 20] rfl ⟨(hS29.subR [0, 1, 2, 3, 4, 5, 6]).sub [0, 1, 2] (by decide), hl22⟩
    rcases br_some hl22 with ⟨h31, hl22⟩ | ⟨h31, hl22⟩
    ·
     refine WL.setI 20 (eq_of_beq h31) rfl ?_
     refine seg 1 [] [18, 19, 20, 22] [(18, (.slice (some ⟨g13, 0, none⟩) 4 4)), (19, (iv 4)), (20, (iv 1)), (22, (.pointer (some ⟨g13, 1, none⟩)))] [.idx (some ⟨g13, 0, none⟩) 1 4] (fun fb => by kernel_rfl) rfl ⟨⟨by decide, by decide, rfl⟩, trivial⟩ ?_
     refine WL.setI 20 (eq_of_beq h31).symm rfl ?_
     refine seg 3 [.v (.func (.func 12) #[] #[(pt g79), (pt g83)])] [8, 18, 19, 20] [(8, (.func (.func 12) #[] #[(pt g79), (pt g83)])), (18, (.slice (some ⟨g13, 0, none⟩) 4 4)), (19, (iv 4)), (20, (iv x16))] [.cell ⟨g13, 1, none⟩ (.func (.func 12) #[] #[(pt g79), (pt g83)])] (fun fb => by kernel_rfl) rfl ⟨hS21.cell 0 rfl 1 rfl, trivial⟩ ?_
     refine WL.done rfl (WX.next (WC.seq (WC.region ?_)))
     refine seg 1 [] [18, 19, 20, 24] [(18, (.slice (some ⟨g13, 0, none⟩) 4 4)), (19, (iv 4)), (20, (iv x16)), (24, (.func (.func 12) #[] #[(pt g79), (pt g83)]))] [] (fun fb => by kernel_rfl) rfl trivial ?_
     obtain ⟨t32, ht33, hl22⟩ := bind_some hl22
     refine WL.call (some 25) 12 #[(pt g79), (pt g83)] (fun fb => by kernel_rfl) (weight_Check_2_calls _ p0 p1 g79 Aa ca g83 Ab cb Ac cc Ad cd Ae ce Af cf t32 _ (hS21.ow 1) (hS21.rd 0) (hS21.ow 2) (hS21.rd 1) (hS21.rd 2) (hS21.rd 3) (hS21.rd 4) (hS21.rd 5) ht33) (fun v w34 hR35 => ?_)
     obtain ⟨rfl, hk_⟩ := hR35
     have hS36 := hS21.keepN hk_
     refine ⟨trivial, ?_⟩
     refine seg 3 [] [18, 19, 20, 26] [(18, (.slice (some ⟨g13, 0, none⟩) 4 4)), (19, (iv 4)), (20, (iv x16)), (26, (bv (!t32)))] [] (fun fb => by kernel_rfl) rfl trivial ?_
     refine WL.done rfl (WX.next ?_)
     rcases br_some hl22 with ⟨h37, hl22⟩ | ⟨h37, hl22⟩
     ·refine WC.condT2 (fun fb => by kernel_rfl) h37 ?_
      refine WC.seq (WC.region ?_)
      refine seg 2 [] [4, 5] [(4, (bv false)), (5, (iv 0))] [] (fun fb => by kernel_rfl) rfl trivial ?_
      refine WL.done rfl (WX.next ?_)
      refine WC.ret ?_
      injection hl22 with hl22
      subst hl22
      injection hf with hf
      subst hf
      exact WX.blockR (WX.thenR (WX.thenR (WX.blockR (WX.thenR (WX.ret_ [] (.tuple #[(bv false), (iv 0)]) [] (fun fb => by kernel_rfl) trivial ⟨_, rfl, rfl, hS36.keep⟩)))))
     refine WC.condF2 (fun fb => by kernel_rfl) h37 ?_
     refine WC.skip ?_
     refine WX.blockN (WX.next ?_)
     refine WC.region ?_
     refine seg 2 [] [18, 19, 20] [(18, (.slice (some ⟨g13, 0, none⟩) 4 4)), (19, (iv 4)), (20, (iv (w64 (x16 + 1))))] [] (fun fb => by kernel_rfl) rfl trivial ?_
     refine WL.done rfl ?_
     exact WX.again k19 (Nat.lt_succ_self _) (w64 (x16 + 1)) [18, 19, 20] rfl ⟨(hS36.subR [0, 1, 2, 3, 4, 5, 6]).sub [0, 1, 2] (by decide), hl22⟩
    rcases br_some hl22 with ⟨h38, hl22⟩ | ⟨h38, hl22⟩
    ·
     refine WL.setI 20 (eq_of_beq h38) rfl ?_
     refine seg 1 [] [18, 19, 20, 22] [(18, (.slice (some ⟨g13, 0, none⟩) 4 4)), (19, (iv 4)), (20, (iv 2)), (22, (.pointer (some ⟨g13, 2, none⟩)))] [.idx (some ⟨g13, 0, none⟩) 2 4] (fun fb => by kernel_rfl) rfl ⟨⟨by decide, by decide, rfl⟩, trivial⟩ ?_
     refine WL.setI 20 (eq_of_beq h38).symm rfl ?_
     refine seg 3 [.v (.func (.func 14) #[] #[(pt g79), (pt g83)])] [8, 18, 19, 20] [(8, (.func (.func 14) #[] #[(pt g79), (pt g83)])), (18, (.slice (some ⟨g13, 0, none⟩) 4 4)), (19, (iv 4)), (20, (iv x16))] [.cell ⟨g13, 2, none⟩ (.func (.func 14) #[] #[(pt g79), (pt g83)])] (fun fb => by kernel_rfl) rfl ⟨hS21.cell 0 rfl 2 rfl, trivial⟩ ?_
     refine WL.done rfl (WX.next (WC.seq (WC.region ?_)))
     refine seg 1 [] [18, 19, 20, 24] [(18, (.slice (some ⟨g13, 0, none⟩) 4 4)), (19, (iv 4)), (20, (iv x16)), (24, (.func (.func 14) #[] #[(pt g79), (pt g83)]))] [] (fun fb => by kernel_rfl) rfl trivial ?_
     obtain ⟨t39, ht40, hl22⟩ := bind_some hl22
     refine WL.call (some 25) 14 #[(pt g79), (pt g83)] (fun fb => by kernel_rfl) (weight_Check_3_calls _ p0 p1 g79 Aa ca g83 Ab cb Ac cc Ad cd Ae ce Af cf t39 _ (hS21.ow 1) (hS21.rd 0) (hS21.ow 2) (hS21.rd 1) (hS21.rd 2) (hS21.rd 3) (hS21.rd 4) (hS21.rd 5) ht40) (fun v w41 hR42 => ?_)
     obtain ⟨rfl, hk_⟩ := hR42
     have hS43 := hS21.keepN hk_
     refine ⟨trivial, ?_⟩
     refine seg 3 [] [18, 19, 20, 26] [(18, (.slice (some ⟨g13, 0, none⟩) 4 4)), (19, (iv 4)), (20, (iv x16)), (26, (bv (!t39)))] [] (fun fb => by kernel_rfl) rfl trivial ?_
     refine WL.done rfl (WX.next ?_)
     rcases br_some hl22 with ⟨h44, hl22⟩ | ⟨h44, hl22⟩
     ·refine WC.condT2 (fun fb => by kernel_rfl) h44 ?_
      refine WC.seq (WC.region ?_)
      refine seg 2 [] [4, 5] [(4, (bv false)), (5, (iv 0))] [] (fun fb => by kernel_rfl) rfl trivial ?_
      refine WL.done rfl (WX.next ?_)
      refine WC.ret ?_
      injection hl22 with hl22
      subst hl22
      injection hf with hf
      subst hf
      exact WX.blockR (WX.thenR (WX.thenR (WX.blockR (WX.thenR (WX.ret_ [] (.tuple #[(bv false), (iv 0)]) [] (fun fb => by kernel_rfl) trivial ⟨_, rfl, rfl, hS43.keep⟩)))))
     refine WC.condF2 (fun fb => by kernel_rfl) h44 ?_
     refine WC.skip ?_
     refine WX.blockN (WX.next ?_)
     refine WC.region ?_
     refine seg 2 [] [18, 19, 20] [(18, (.slice (some ⟨g13, 0, none⟩) 4 4)), (19, (iv 4)), (20, (iv (w64 (x16 + 1))))] [] (fun fb => by kernel_rfl) rfl trivial ?_
     refine WL.done rfl ?_
     exact WX.again k19 (Nat.lt_succ_self _) (w64 (x16 + 1)) [18, 19, 20] rfl ⟨(hS43.subR [0, 1, 2, 3, 4, 5, 6]).sub [0, 1, 2] (by decide), hl22⟩
    rcases br_some hl22 with ⟨h45, hl22⟩ | ⟨h45, hl22⟩
    ·
     refine WL.setI 20 (eq_of_beq h45) rfl ?_
     refine seg 1 [] [18, 19, 20, 22] [(18, (.slice (some ⟨g13, 0, none⟩) 4 4)), (19, (iv 4)), (20, (iv 3)), (22, (.pointer (some ⟨g13, 3, none⟩)))] [.idx (some ⟨g13, 0, none⟩) 3 4] (fun fb => by kernel_rfl) rfl ⟨⟨by decide, by decide, rfl⟩, trivial⟩ ?_
     refine WL.setI 20 (eq_of_beq h45).symm rfl ?_
     refine seg 3 [.v (.func (.func 16) #[] #[(pt g83)])] [8, 18, 19, 20] [(8, (.func (.func 16) #[] #[(pt g83)])), (18, (.slice (some ⟨g13, 0, none⟩) 4 4)), (19, (iv 4)), (20, (iv x16))] [.cell ⟨g13, 3, none⟩ (.func (.func 16) #[] #[(pt g83)])] (fun fb => by kernel_rfl) rfl ⟨hS21.cell 0 rfl 3 rfl, trivial⟩ ?_
     refine WL.done rfl (WX.next (WC.seq (WC.region ?_)))
     refine seg 1 [] [18, 19, 20, 24] [(18, (.slice (some ⟨g13, 0, none⟩) 4 4)), (19, (iv 4)), (20, (iv x16)), (24, (.func (.func 16) #[] #[(pt g83)]))] [] (fun fb => by kernel_rfl) rfl trivial ?_
     obtain ⟨t46, ht47, hl22⟩ := bind_some hl22
     refine WL.call (some 25) 16 #[(pt g83)] (fun fb => by kernel_rfl) (weight_Check_4_calls _ p1 g83 Ab cb Ac cc Ad cd Ae ce Af cf t46 _ (hS21.ow 2) (hS21.rd 1) (hS21.rd 2) (hS21.rd 3) (hS21.rd 4) (hS21.rd 5) ht47) (fun v w48 hR49 => ?_)
     obtain ⟨rfl, hk_⟩ := hR49
     have hS50 := hS21.keepN hk_
     refine ⟨trivial, ?_⟩
     refine seg 3 [] [18, 19, 20, 26] [(18, (.slice (some ⟨g13, 0, none⟩) 4 4)), (19, (iv 4)), (20, (iv x16)), (26, (bv (!t46)))] [] (fun fb => by kernel_rfl) rfl trivial ?_
     refine WL.done rfl (WX.next ?_)
     rcases br_some hl22 with ⟨h51, hl22⟩ | ⟨h51, hl22⟩
     ·refine WC.condT2 (fun fb => by kernel_rfl) h51 ?_
      refine WC.seq (WC.region ?_)
      refine seg 2 [] [4, 5] [(4, (bv false)), (5, (iv 0))] [] (fun fb => by kernel_rfl) rfl trivial ?_
      refine WL.done rfl (WX.next ?_)
      refine WC.ret ?_
      injection hl22 with hl22
      subst hl22
      injection hf with hf
      subst hf
      exact WX.blockR (WX.thenR (WX.thenR (WX.blockR (WX.thenR (WX.ret_ [] (.tuple #[(bv false), (iv 0)]) [] (fun fb => by kernel_rfl) trivial ⟨_, rfl, rfl, hS50.keep⟩)))))
     refine WC.condF2 (fun fb => by kernel_rfl) h51 ?_
     refine WC.skip ?_
     refine WX.blockN (WX.next ?_)
     refine WC.region ?_
     refine seg 2 [] [18, 19, 20] [(18, (.slice (some ⟨g13, 0, none⟩) 4 4)), (19, (iv 4)), (20, (iv (w64 (x16 + 1))))] [] (fun fb => by kernel_rfl) rfl trivial ?_
     refine WL.done rfl ?_
     exact WX.again k19 (Nat.lt_succ_self _) (w64 (x16 + 1)) [18, 19, 20] rfl ⟨(hS50.subR [0, 1, 2, 3, 4, 5, 6]).sub [0, 1, 2] (by decide), hl22⟩
    cases hl22
   refine WC.condF2 (fun fb => by kernel_rfl) h23 ?_
   refine WC.exit ?_
   injection hl22 with hl22
   exact WX.thenX (WX.thenX (WX.blockHere (WX.to Kx17 () [] rfl ⟨(hS21.subR [0, 1, 2, 3, 4, 5, 6]).sub [] (by decide), hl22.symm⟩)))
 rintro y55 w52 ⟨hS53, hq54⟩
 subst hq54
 have hf := sum_inr hf
 refine WX.next (WC.seq (WC.region ?_))
 refine seg 2 [] [4, 5] [(4, (bv true)), (5, (iv 0))] [] (fun fb => by kernel_rfl) rfl trivial ?_
 refine WL.done rfl (WX.next ?_)
 refine WC.ret ?_
 injection hf with hf
 subst hf
 exact WX.ret_ [] (.tuple #[(bv true), (iv 0)]) [] (fun fb => by kernel_rfl) trivial ⟨_, rfl, rfl, hS53.keep⟩
theorem tile_Form_calls (p0 : Pattern) (Aa : Option Addr) (ca : Nat) (r : Bool) (w : World) (hR0 : RO NoS w (rowR encInt Aa ca p0.Cells)) (hf : tile_Form p0 = some r) :
  CallsR Tryd.prog 39 #[(.agg #[(iv p0.Width), (iv p0.Height), (sv Aa p0.Cells ca)])] w (fun v w' => v = (bv r) ∧ Keeps NoS w w') := by
 have hS : St NoS w w [rowR encInt Aa ca p0.Cells] [] := St.init (ro_cons hR0 (ro_nil _ _))
 refine enter 40 Tryd.func39 rfl Tryd.ntmps39 rfl ?_
 unfold tile_Form at hf
 refine WC.seq (WC.region ?_)
 refine WL.new hS 1 [] (fun g => (pt g)) (.cells #[(iv p0.Width), (iv p0.Height), (sv Aa p0.Cells ca)] 28 (0, 0)) [] (fun fb g => by kernel_rfl) trivial (fun g1 w2 hS3 => ?_)
 refine ⟨trivial, ?_⟩
 refine seg 2 [] [1] [(1, (pt g1))] [] (fun fb => by kernel_rfl) rfl trivial ?_
 refine WL.done rfl (WX.next (WC.seq (WC.region ?_)))
 refine seg 4 [.v (iv p0.Width)] [1, 6] [(1, (pt g1)), (6, (bv (decide (p0.Width ≥ 1))))] [.cell ⟨g1, 0, none⟩ (iv p0.Width)] (fun fb => by kernel_rfl) rfl ⟨hS3.cell 0 rfl 0 rfl, trivial⟩ ?_
 refine WL.cutV (T := Bool) 8 (fun t => [(10, (bv t)), (1, (pt g1))]) (fun t => ((decide (p0.Width ≥ 1)) && (decide (p0.Height ≥ 1))) = t) (fun K => ?_) ?_
 ·
  rcases Bool.eq_false_or_eq_true (decide (p0.Width ≥ 1)) with h4 | h4
  ·
   refine WL.setB 6 h4 rfl ?_
   refine seg 8 [.v (iv p0.Height)] [1, 10] [(1, (pt g1)), (10, (bv (decide (p0.Height ≥ 1))))] [.cell ⟨g1, 1, none⟩ (iv p0.Height)] (fun fb => by kernel_rfl) rfl ⟨hS3.cell 0 rfl 1 rfl, trivial⟩ ?_
   exact WL.toV K (decide (p0.Height ≥ 1)) [10, 1] rfl (by first | (rw [h4]; done) | (rw [h4]; rfl))
  refine WL.setB 6 h4 rfl ?_
  refine seg 8 [] [1, 10] [(1, (pt g1)), (10, (bv false))] [] (fun fb => by kernel_rfl) rfl trivial ?_
  exact WL.toV K false [10, 1] rfl (by first | (rw [h4]; done) | (rw [h4]; rfl))
 rintro b5 rfl
 refine seg 9 [] [1, 11] [(1, (pt g1)), (11, (bv ((decide (p0.Width ≥ 1)) && (decide (p0.Height ≥ 1)))))] [] (fun fb => by kernel_rfl) rfl trivial ?_
 refine WL.cutV (T := Bool) 13 (fun t => [(15, (bv t)), (1, (pt g1))]) (fun t => (((decide (p0.Width ≥ 1)) && (decide (p0.Height ≥ 1))) && (decide (p0.Width ≤ 40000))) = t) (fun K => ?_) ?_
 ·
  rcases Bool.eq_false_or_eq_true ((decide (p0.Width ≥ 1)) && (decide (p0.Height ≥ 1))) with h6 | h6
  ·
   refine WL.setB 11 h6 rfl ?_
   refine seg 13 [.v (iv p0.Width)] [1, 15] [(1, (pt g1)), (15, (bv (decide (p0.Width ≤ 40000))))] [.cell ⟨g1, 0, none⟩ (iv p0.Width)] (fun fb => by kernel_rfl) rfl ⟨hS3.cell 0 rfl 0 rfl, trivial⟩ ?_
   exact WL.toV K (decide (p0.Width ≤ 40000)) [15, 1] rfl (by first | (rw [h6]; done) | (rw [h6]; rfl))
  refine WL.setB 11 h6 rfl ?_
  refine seg 13 [] [1, 15] [(1, (pt g1)), (15, (bv false))] [] (fun fb => by kernel_rfl) rfl trivial ?_
  exact WL.toV K false [15, 1] rfl (by first | (rw [h6]; done) | (rw [h6]; rfl))
 rintro b7 rfl
 refine seg 14 [] [1, 16] [(1, (pt g1)), (16, (bv (((decide (p0.Width ≥ 1)) && (decide (p0.Height ≥ 1))) && (decide (p0.Width ≤ 40000)))))] [] (fun fb => by kernel_rfl) rfl trivial ?_
 refine WL.cutV (T := Bool) 18 (fun t => [(20, (bv t)), (1, (pt g1))]) (fun t => ((((decide (p0.Width ≥ 1)) && (decide (p0.Height ≥ 1))) && (decide (p0.Width ≤ 40000))) && (decide (p0.Height ≤ 40000))) = t) (fun K => ?_) ?_
 ·
  rcases Bool.eq_false_or_eq_true (((decide (p0.Width ≥ 1)) && (decide (p0.Height ≥ 1))) && (decide (p0.Width ≤ 40000))) with h8 | h8
  ·
   refine WL.setB 16 h8 rfl ?_
   refine seg 18 [.v (iv p0.Height)] [1, 20] [(1, (pt g1)), (20, (bv (decide (p0.Height ≤ 40000))))] [.cell ⟨g1, 1, none⟩ (iv p0.Height)] (fun fb => by kernel_rfl) rfl ⟨hS3.cell 0 rfl 1 rfl, trivial⟩ ?_
   exact WL.toV K (decide (p0.Height ≤ 40000)) [20, 1] rfl (by first | (rw [h8]; done) | (rw [h8]; rfl))
  refine WL.setB 16 h8 rfl ?_
  refine seg 18 [] [1, 20] [(1, (pt g1)), (20, (bv false))] [] (fun fb => by kernel_rfl) rfl trivial ?_
  exact WL.toV K false [20, 1] rfl (by first | (rw [h8]; done) | (rw [h8]; rfl))
 rintro b9 rfl
 refine seg 19 [] [1, 21] [(1, (pt g1)), (21, (bv ((((decide (p0.Width ≥ 1)) && (decide (p0.Height ≥ 1))) && (decide (p0.Width ≤ 40000))) && (decide (p0.Height ≤ 40000)))))] [] (fun fb => by kernel_rfl) rfl trivial ?_
 refine WL.cutV (T := Bool) 26 (fun t => [(28, (bv t)), (1, (pt g1))]) (fun t => (((((decide (p0.Width ≥ 1)) && (decide (p0.Height ≥ 1))) && (decide (p0.Width ≤ 40000))) && (decide (p0.Height ≤ 40000))) && (decide (w64 (p0.Width * p0.Height) ≤ 40000))) = t) (fun K => ?_) ?_
 ·
  rcases Bool.eq_false_or_eq_true ((((decide (p0.Width ≥ 1)) && (decide (p0.Height ≥ 1))) && (decide (p0.Width ≤ 40000))) && (decide (p0.Height ≤ 40000))) with h10 | h10
  ·
   refine WL.setB 21 h10 rfl ?_
   refine seg 26 [.v (iv p0.Width), .v (iv p0.Height)] [1, 28] [(1, (pt g1)), (28, (bv (decide (w64 (p0.Width * p0.Height) ≤ 40000))))] [.cell ⟨g1, 0, none⟩ (iv p0.Width), .cell ⟨g1, 1, none⟩ (iv p0.Height)] (fun fb => by kernel_rfl) rfl ⟨hS3.cell 0 rfl 0 rfl, hS3.cell 0 rfl 1 rfl, trivial⟩ ?_
   exact WL.toV K (decide (w64 (p0.Width * p0.Height) ≤ 40000)) [28, 1] rfl (by first | (rw [h10]; done) | (rw [h10]; rfl))
  refine WL.setB 21 h10 rfl ?_
  refine seg 26 [] [1, 28] [(1, (pt g1)), (28, (bv false))] [] (fun fb => by kernel_rfl) rfl trivial ?_
  exact WL.toV K false [28, 1] rfl (by first | (rw [h10]; done) | (rw [h10]; rfl))
 rintro b11 rfl
 refine seg 27 [] [1, 29] [(1, (pt g1)), (29, (bv (((((decide (p0.Width ≥ 1)) && (decide (p0.Height ≥ 1))) && (decide (p0.Width ≤ 40000))) && (decide (p0.Height ≤ 40000))) && (decide (w64 (p0.Width * p0.Height) ≤ 40000)))))] [] (fun fb => by kernel_rfl) rfl trivial ?_
 refine WL.cutV (T := Bool) 37 (fun t => [(39, (bv t))]) (fun t => ((((((decide (p0.Width ≥ 1)) && (decide (p0.Height ≥ 1))) && (decide (p0.Width ≤ 40000))) && (decide (p0.Height ≤ 40000))) && (decide (w64 (p0.Width * p0.Height) ≤ 40000))) && ((p0.Cells.length : Int) == (w64 (p0.Width * p0.Height)))) = t) (fun K => ?_) ?_
 ·
  rcases Bool.eq_false_or_eq_true (((((decide (p0.Width ≥ 1)) && (decide (p0.Height ≥ 1))) && (decide (p0.Width ≤ 40000))) && (decide (p0.Height ≤ 40000))) && (decide (w64 (p0.Width * p0.Height) ≤ 40000))) with h12 | h12
  ·
   refine WL.setB 29 h12 rfl ?_
   refine seg 37 [.v (sv Aa p0.Cells ca), .v (iv p0.Width), .v (iv p0.Height)] [39] [(39, (bv ((p0.Cells.length : Int) == (w64 (p0.Width * p0.Height)))))] [.cell ⟨g1, 2, none⟩ (sv Aa p0.Cells ca), .cell ⟨g1, 0, none⟩ (iv p0.Width), .cell ⟨g1, 1, none⟩ (iv p0.Height)] (fun fb => by kernel_rfl) rfl ⟨hS3.cell 0 rfl 2 rfl, hS3.cell 0 rfl 0 rfl, hS3.cell 0 rfl 1 rfl, trivial⟩ ?_
   exact WL.toV K ((p0.Cells.length : Int) == (w64 (p0.Width * p0.Height))) [39] rfl (by first | (rw [h12]; done) | (rw [h12]; rfl))
  refine WL.setB 29 h12 rfl ?_
  refine seg 37 [] [39] [(39, (bv false))] [] (fun fb => by kernel_rfl) rfl trivial ?_
  exact WL.toV K false [39] rfl (by first | (rw [h12]; done) | (rw [h12]; rfl))
 rintro b13 rfl
 refine seg 38 [] [2] [(2, (bv ((((((decide (p0.Width ≥ 1)) && (decide (p0.Height ≥ 1))) && (decide (p0.Width ≤ 40000))) && (decide (p0.Height ≤ 40000))) && (decide (w64 (p0.Width * p0.Height) ≤ 40000))) && ((p0.Cells.length : Int) == (w64 (p0.Width * p0.Height))))))] [] (fun fb => by kernel_rfl) rfl trivial ?_
 refine WL.done rfl (WX.next ?_)
 refine WC.ret ?_
 injection hf with hf
 subst hf
 exact WX.ret_ [] (bv ((((((decide (p0.Width ≥ 1)) && (decide (p0.Height ≥ 1))) && (decide (p0.Width ≤ 40000))) && (decide (p0.Height ≤ 40000))) && (decide (w64 (p0.Width * p0.Height) ≤ 40000))) && ((p0.Cells.length : Int) == (w64 (p0.Width * p0.Height))))) [] (fun fb => by kernel_rfl) trivial ⟨_, rfl, rfl, hS3.keep⟩
end Gp
