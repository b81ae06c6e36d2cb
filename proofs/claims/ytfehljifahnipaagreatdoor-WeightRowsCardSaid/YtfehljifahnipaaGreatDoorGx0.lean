/- Walks: each function of the program computes its plain function. -/
import Derived.Test.YtfehljifahnipaaGreatDoorGp
set_option linter.unusedVariables false
set_option linter.unusedSimpArgs false
set_option maxHeartbeats 4000000
set_option maxRecDepth 8000
namespace Gp
open Go Gw Go.Proofs
theorem law06_wide_calls (p0 : List Tile) (p1 : Weights) (Aa : Option Addr) (ca : Nat) (Ab : Option Addr) (cb : Nat) (Ac : Option Addr) (cc : Nat) (Ad : Option Addr) (cd : Nat) (Ae : Option Addr) (ce : Nat) (Af : Option Addr) (cf : Nat) (r : Bool) (w : World) (hR0 : RO NoS w (rowR enc_Tile Aa ca p0)) (hR1 : RO NoS w (rowR enc_Frac Ab cb p1.Values)) (hR2 : RO NoS w (rowR enc_Frac Ac cc p1.Carries)) (hR3 : RO NoS w (rowR enc_Frac Ad cd p1.Factors)) (hR4 : RO NoS w (rowR encInt Ae ce p1.Primes)) (hR5 : RO NoS w (rowR encInt Af cf p1.Logs)) (hf : law06_wide p0 p1 = some r) :
  CallsR Tryz.prog 8 #[(sv Aa p0 ca), (.agg #[(sv Ab p1.Values cb), (sv Ac p1.Carries cc), (sv Ad p1.Factors cd), (sv Ae p1.Primes ce), (sv Af p1.Logs cf)])] w (fun v w' => v = (bv r) ∧ Keeps NoS w w') := by
 have hS : St NoS w w [rowR enc_Tile Aa ca p0, rowR enc_Frac Ab cb p1.Values, rowR enc_Frac Ac cc p1.Carries, rowR enc_Frac Ad cd p1.Factors, rowR encInt Ae ce p1.Primes, rowR encInt Af cf p1.Logs] [] := St.init (ro_cons hR0 (ro_cons hR1 (ro_cons hR2 (ro_cons hR3 (ro_cons hR4 (ro_cons hR5 (ro_nil _ _)))))))
 refine enter 32 Tryz.func8 rfl Tryz.ntmps8 rfl ?_
 unfold law06_wide at hf
 refine WC.seq (WC.region ?_)
 refine WL.new hS 3 [] (fun g => (pt g)) (.cells #[(sv Ab p1.Values cb), (sv Ac p1.Carries cc), (sv Ad p1.Factors cd), (sv Ae p1.Primes ce), (sv Af p1.Logs cf)] 26 (0, 0)) [] (fun fb g => by kernel_rfl) trivial (fun g8 w9 hS10 => ?_)
 refine ⟨trivial, ?_⟩
 refine sg 2 [] [0, 3] [(0, (sv Aa p0 ca)), (3, (pt g8))] (by kernel_rfl) ?_
 refine WL.done rfl (WX.next (WC.seq (WC.region ?_)))
 refine sg 4 [] [3, 8] [(3, (pt g8)), (8, (bv (decide ((p0.length : Int) > 1100))))] (by kernel_rfl) ?_
 let e3 := ((p1.Values.length : Int) + (p1.Carries.length : Int))
 refine WL.cutV (T := Bool) 17 (fun t => [(21, (bv t)), (3, (pt g8))]) (fun t => ((decide ((p0.length : Int) > 1100)) || (decide (w64 ((w64 e3) + (p1.Factors.length : Int)) > 4000))) = t) (fun K => ?_) ?_
 ·
  rcases Bool.eq_false_or_eq_true (decide ((p0.length : Int) > 1100)) with h12 | h12
  ·
   refine WL.setB 8 h12 rfl ?_
   refine sg 17 [] [3, 21] [(3, (pt g8)), (21, (bv true))] (by kernel_rfl) ?_
   exact WL.toV K true [21, 3] rfl (by first | (rw [h12]; done) | (rw [h12]; rfl))
  refine WL.setB 8 h12 rfl ?_
  refine seg 17 [.v (sv Ab p1.Values cb), .v (sv Ac p1.Carries cc), .v (sv Ad p1.Factors cd)] [3, 21] [(3, (pt g8)), (21, (bv (decide (w64 ((w64 e3) + (p1.Factors.length : Int)) > 4000))))] [.cell ⟨g8, 0, none⟩ (sv Ab p1.Values cb), .cell ⟨g8, 1, none⟩ (sv Ac p1.Carries cc), .cell ⟨g8, 2, none⟩ (sv Ad p1.Factors cd)] (fun fb => by kernel_rfl) rfl ⟨hS10.cell 0 rfl 0 rfl, hS10.cell 0 rfl 1 rfl, hS10.cell 0 rfl 2 rfl, trivial⟩ ?_
  exact WL.toV K (decide (w64 ((w64 ((p1.Values.length : Int) + (p1.Carries.length : Int))) + (p1.Factors.length : Int)) > 4000)) [21, 3] rfl (by first | (rw [h12]; done) | (rw [h12]; rfl))
 rintro b13 rfl
 refine sg 18 [] [3, 22] [(3, (pt g8)), (22, (bv ((decide ((p0.length : Int) > 1100)) || (decide (w64 ((w64 e3) + (p1.Factors.length : Int)) > 4000)))))] (by kernel_rfl) ?_
 let e1 := (decide (w64 ((w64 e3) + (p1.Factors.length : Int)) > 4000))
 let e2 := (decide (w64 ((p1.Primes.length : Int) + (p1.Logs.length : Int)) > 100))
 refine WL.cutV (T := Bool) 27 (fun t => [(31, (bv t))]) (fun t => (((decide ((p0.length : Int) > 1100)) || e1) || e2) = t) (fun K => ?_) ?_
 ·
  rcases Bool.eq_false_or_eq_true ((decide ((p0.length : Int) > 1100)) || e1) with h14 | h14
  ·
   refine WL.setB 22 h14 rfl ?_
   refine sg 27 [] [31] [(31, (bv true))] (by kernel_rfl) ?_
   exact WL.toV K true [31] rfl (by first | (rw [h14]; done) | (rw [h14]; rfl))
  refine WL.setB 22 h14 rfl ?_
  refine seg 27 [.v (sv Ae p1.Primes ce), .v (sv Af p1.Logs cf)] [31] [(31, (bv e2))] [.cell ⟨g8, 3, none⟩ (sv Ae p1.Primes ce), .cell ⟨g8, 4, none⟩ (sv Af p1.Logs cf)] (fun fb => by kernel_rfl) rfl ⟨hS10.cell 0 rfl 3 rfl, hS10.cell 0 rfl 4 rfl, trivial⟩ ?_
  exact WL.toV K (decide (w64 ((p1.Primes.length : Int) + (p1.Logs.length : Int)) > 100)) [31] rfl (by first | (rw [h14]; done) | (rw [h14]; rfl))
 rintro b15 rfl
 refine sg 28 [] [4] [(4, (bv (((decide ((p0.length : Int) > 1100)) || e1) || e2)))] (by kernel_rfl) ?_
 refine WL.done rfl (WX.next ?_)
 refine WC.ret ?_
 injection hf with hf
 subst hf
 exact WX.ret_ [] (bv (((decide ((p0.length : Int) > 1100)) || e1) || e2)) [] (fun fb => by kernel_rfl) trivial ⟨_, rfl, rfl, hS10.keep⟩
theorem ref01_colour_calls (p0 : Int)  (r : Bool) (w : World)  (hf : ref01_colour p0 = some r) :
  CallsR Tryz.prog 54 #[(iv p0)] w (fun v w' => v = (bv r) ∧ Keeps NoS w w') := by
 have hS : St NoS w w [] [] := St.init (ro_nil _ _)
 refine enter 9 Tryz.func54 rfl Tryz.ntmps54 rfl ?_
 unfold ref01_colour at hf
 refine WC.seq (WC.region ?_)
 refine sg 1 [] [0] [(0, (iv p0))] (by kernel_rfl) ?_
 refine WL.done rfl (WX.next (WC.seq (WC.region ?_)))
 refine sg 3 [] [0, 5] [(0, (iv p0)), (5, (bv (decide (p0 ≥ 0))))] (by kernel_rfl) ?_
 refine WL.cutV (T := Bool) 6 (fun t => [(8, (bv t))]) (fun t => ((decide (p0 ≥ 0)) && (decide (p0 < 1000))) = t) (fun K => ?_) ?_
 ·
  rcases Bool.eq_false_or_eq_true (decide (p0 ≥ 0)) with h30 | h30
  ·
   refine WL.setB 5 h30 rfl ?_
   refine sg 6 [] [8] [(8, (bv (decide (p0 < 1000))))] (by kernel_rfl) ?_
   exact WL.toV K (decide (p0 < 1000)) [8] rfl (by first | (rw [h30]; done) | (rw [h30]; rfl))
  refine WL.setB 5 h30 rfl ?_
  refine sg 6 [] [8] [(8, (bv false))] (by kernel_rfl) ?_
  exact WL.toV K false [8] rfl (by first | (rw [h30]; done) | (rw [h30]; rfl))
 rintro b31 rfl
 refine sg 7 [] [2] [(2, (bv ((decide (p0 ≥ 0)) && (decide (p0 < 1000)))))] (by kernel_rfl) ?_
 refine WL.done rfl (WX.next ?_)
 refine WC.ret ?_
 injection hf with hf
 subst hf
 exact WX.ret_ [] (bv ((decide (p0 ≥ 0)) && (decide (p0 < 1000)))) [] (fun fb => by kernel_rfl) trivial ⟨_, rfl, rfl, hS.keep⟩
theorem ref01_Index_calls (k : Nat) (p0 : List Tile) (p1 : Tile) (Aa : Option Addr) (ca : Nat) (r : Int) (w : World) (hR0 : RO NoS w (rowR enc_Tile Aa ca p0)) (hf : ref01_Index k p0 p1 = some r) :
  CallsR Tryz.prog 55 #[(sv Aa p0 ca), (.agg #[(iv p1.N), (iv p1.E), (iv p1.S), (iv p1.W)])] w (fun v w' => v = (iv r) ∧ Keeps NoS w w') := by
 have hS : St NoS w w [rowR enc_Tile Aa ca p0] [] := St.init (ro_cons hR0 (ro_nil _ _))
 refine enter 19 Tryz.func55 rfl Tryz.ntmps55 rfl ?_
 unfold ref01_Index at hf
 refine WC.seq (WC.region ?_)
 refine WL.new hS 3 [] (fun g => (pt g)) (.cells #[(iv p1.N), (iv p1.E), (iv p1.S), (iv p1.W)] 44 (0, 0)) [] (fun fb g => by kernel_rfl) trivial (fun g96 w97 hS98 => ?_)
 refine ⟨trivial, ?_⟩
 refine sg 2 [] [0, 3] [(0, (sv Aa p0 ca)), (3, (pt g96))] (by kernel_rfl) ?_
 refine WL.done rfl (WX.next (WC.seq (WC.seq (WC.region ?_))))
 refine sg 1 [] [0, 3, 5] [(0, (sv Aa p0 ca)), (3, (pt g96)), (5, (iv 0))] (by kernel_rfl) ?_
 refine WL.done rfl (WX.next ?_)
 obtain ⟨x4, hx5, hf⟩ := bind_some hf
 refine WC.cutN (T := Unit) (fun t => []) (fun t w1 => St NoS w w1 [rowR enc_Tile Aa ca p0] [] ∧ x4 = .inr t) (fun Kx4 => ?_) ?_
 ·
  refine WC.block ?_
  refine WC.loop (T := Int) (fun t => [(0, (sv Aa p0 ca)), (3, (pt g96)), (5, (iv t))]) (fun n t w1 => St NoS w w1 [rowR enc_Tile Aa ca p0] [blk g96 (.cells #[(iv p1.N), (iv p1.E), (iv p1.S), (iv p1.W)] 44 (0, 0))] ∧ ref01_Index.l0 n t p0 p1 = some x4) k 0 [0, 3, 5] rfl ⟨(hS98.subR [0]).sub [0] (by decide), hx5⟩ ?_
  rintro k6 x3 w7 ⟨hS8, hl9⟩
  let e3 := (adr Aa).add ((x3).toNat * 4)
  let e1 : List (Nat × Addr × Value) := [(3, e3, (iv ((rdD p0 x3 z_Tile).N))), (3, (e3.add 1), (iv ((rdD p0 x3 z_Tile).E))), (3, (e3.add 2), (iv ((rdD p0 x3 z_Tile).S))), (3, (e3.add 3), (iv ((rdD p0 x3 z_Tile).W))), (4, ⟨g96, 0, none⟩, (iv p1.N)), (4, ⟨g96, 1, none⟩, (iv p1.E)), (4, ⟨g96, 2, none⟩, (iv p1.S)), (4, ⟨g96, 3, none⟩, (iv p1.W))]
  let e2 := rdD p0 x3 z_Tile
  cases k6 with
  | zero => rw [ref01_Index.l0] at hl9; cases hl9
  | succ k6 =>
   rw [ref01_Index.l0] at hl9
   refine WC.seq (WC.seq (WC.region ?_))
   refine sg 4 [] [0, 3, 5, 9] [(0, (sv Aa p0 ca)), (3, (pt g96)), (5, (iv x3)), (9, (bv (decide (x3 < (p0.length : Int)))))] (by kernel_rfl) ?_
   refine WL.done rfl (WX.next ?_)
   rcases br_some hl9 with ⟨h10, hl9⟩ | ⟨h10, hl9⟩
   ·refine WC.condT2 (fun fb => by kernel_rfl) h10 ?_
    refine WC.skip (WX.next (WC.seq (WC.block (WC.seq ?_))))
    obtain ⟨h13, hl9⟩ := as_some hl9
    refine WC.regionD (e1, [0, 1, 2, 3, 4, 5], [[], [], [0, 1], [0, 1, 2], [], [0, 1, 2, 3, 4]]) [[0, 1, 2, 3, 4, 5]] (by kernel_rfl) (by kernel_rfl) (NoPanic.seq (NoPanic.block (NoPanic.seq (NoPanic.seq (NoPanic.block (NoPanic.seq (NoPanic.body))))))) ?_
    have hS12 := hS8.drew
    revert hS12
    generalize World.drew w7 = w11
    intro hS12
    refine ⟨⟨rowR.cell (hS12.rd 0).1 z_Tile h13.1 h13.2 0 rfl, rowR.cell (hS12.rd 0).1 z_Tile h13.1 h13.2 1 rfl, rowR.cell (hS12.rd 0).1 z_Tile h13.1 h13.2 2 rfl, rowR.cell (hS12.rd 0).1 z_Tile h13.1 h13.2 3 rfl, hS12.cell 0 rfl 0 rfl, hS12.cell 0 rfl 1 rfl, hS12.cell 0 rfl 2 rfl, hS12.cell 0 rfl 3 rfl, trivial⟩, forallC ?_ (forallN)⟩
    refine segF 6 [.v (iv (e2.N)), .v (iv (e2.E)), .v (iv (e2.S)), .v (iv (e2.W)), .v (iv p1.N), .v (iv p1.E), .v (iv p1.S), .v (iv p1.W)] [0, 3, 5, 17] [(0, (sv Aa p0 ca)), (3, (pt g96)), (5, (iv x3)), (17, (bv ((e2.N) == p1.N && ((e2.E) == p1.E && ((e2.S) == p1.S && ((e2.W) == p1.W))))))] [.idx Aa x3 p0.length] [0, 1, 2, 3, 4, 5, 6, 7] e1 (fun fb => by kernel_rfl) rfl ⟨rowR.adr (hS12.rd 0).1 h13.1 h13.2, trivial⟩ rfl ?_
    refine WL.done rfl (WX.next ?_)
    rcases br_some hl9 with ⟨h14, hl9⟩ | ⟨h14, hl9⟩
    ·refine WC.condT2 (fun fb => by kernel_rfl) h14 ?_
     refine WC.seq (WC.region ?_)
     refine sg 2 [] [4] [(4, (iv x3))] (by kernel_rfl) ?_
     refine WL.done rfl (WX.next ?_)
     refine WC.ret ?_
     injection hl9 with hl9
     subst hl9
     injection hf with hf
     subst hf
     exact WX.blockR (WX.thenR (WX.thenR (WX.blockR (WX.thenR (WX.ret_ [] (iv x3) [] (fun fb => by kernel_rfl) trivial ⟨_, rfl, rfl, hS12.keep⟩)))))
    refine WC.condF2 (fun fb => by kernel_rfl) h14 ?_
    refine WC.skip ?_
    refine WX.blockN (WX.next ?_)
    refine WC.region ?_
    refine sg 3 [] [0, 3, 5] [(0, (sv Aa p0 ca)), (3, (pt g96)), (5, (iv (w64 (x3 + 1))))] (by kernel_rfl) ?_
    refine WL.done rfl ?_
    exact WX.again k6 (Nat.lt_succ_self _) (w64 (x3 + 1)) [0, 3, 5] rfl ⟨(hS12.subR [0]).sub [0] (by decide), hl9⟩
   refine WC.condF2 (fun fb => by kernel_rfl) h10 ?_
   refine WC.exit ?_
   injection hl9 with hl9
   exact WX.thenX (WX.thenX (WX.blockHere (WX.to Kx4 () [] rfl ⟨(hS8.subR [0]).sub [] (by decide), hl9.symm⟩)))
 rintro y18 w15 ⟨hS16, hq17⟩
 subst hq17
 have hf := sum_inr hf
 refine WX.next (WC.seq (WC.region ?_))
 refine sg 1 [] [4] [(4, (iv (-1)))] (by kernel_rfl) ?_
 refine WL.done rfl (WX.next ?_)
 refine WC.ret ?_
 injection hf with hf
 subst hf
 exact WX.ret_ [] (iv (-1)) [] (fun fb => by kernel_rfl) trivial ⟨_, rfl, rfl, hS16.keep⟩
theorem ref01_Valid_calls (k : Nat) (p0 : List Tile) (Aa : Option Addr) (ca : Nat) (r : Bool) (w : World) (hR0 : RO NoS w (rowR enc_Tile Aa ca p0)) (hf : ref01_Valid k p0 = some r) :
  CallsR Tryz.prog 20 #[(sv Aa p0 ca)] w (fun v w' => v = (bv r) ∧ Keeps NoS w w') := by
 have hS : St NoS w w [rowR enc_Tile Aa ca p0] [] := St.init (ro_cons hR0 (ro_nil _ _))
 refine enter 48 Tryz.func20 rfl Tryz.ntmps20 rfl ?_
 unfold ref01_Valid at hf
 refine WC.seq (WC.region ?_)
 refine sg 1 [] [0] [(0, (sv Aa p0 ca))] (by kernel_rfl) ?_
 refine WL.done rfl (WX.next (WC.seq (WC.seq (WC.region ?_))))
 refine sg 3 [] [0, 7] [(0, (sv Aa p0 ca)), (7, (bv (decide ((p0.length : Int) > 1000))))] (by kernel_rfl) ?_
 refine WL.done rfl (WX.next ?_)
 rcases br_some hf with ⟨h21, hf⟩ | ⟨h21, hf⟩
 ·refine WC.condT2 (fun fb => by kernel_rfl) h21 ?_
  refine WC.seq (WC.region ?_)
  refine sg 1 [] [2] [(2, (bv false))] (by kernel_rfl) ?_
  refine WL.done rfl (WX.next ?_)
  refine WC.ret ?_
  injection hf with hf
  subst hf
  exact WX.thenR (WX.ret_ [] (bv false) [] (fun fb => by kernel_rfl) trivial ⟨_, rfl, rfl, hS.keep⟩)
 refine WC.condF2 (fun fb => by kernel_rfl) h21 ?_
 refine WC.skip (WX.next (WC.seq (WC.seq (WC.region ?_))))
 refine sg 1 [] [0, 3] [(0, (sv Aa p0 ca)), (3, (iv 0))] (by kernel_rfl) ?_
 refine WL.done rfl (WX.next ?_)
 obtain ⟨x4, hx5, hf⟩ := bind_some hf
 let e2 : Nat × Value := (0, (sv Aa p0 ca))
 let e5 : List Nat := [0, 1, 2, 3, 4, 5, 6, 7, 8, 9, 10, 11, 12, 13, 14, 15, 16, 17, 18, 19, 20, 21, 22]
 let e6 : List Own := [rowR enc_Tile Aa ca p0]
 let e8 := (subA Aa ca (0 : Int).toNat 4)
 let e13 := (ca - (0 : Int).toNat)
 refine WC.cutN (T := Unit) (fun t => []) (fun t w1 => St NoS w w1 e6 [] ∧ x4 = .inr t) (fun Kx4 => ?_) ?_
 ·
  refine WC.block ?_
  refine WC.loop (T := Int) (fun t => [e2, (3, (iv t))]) (fun n t w1 => St NoS w w1 e6 [] ∧ ref01_Valid.l0 n t p0 = some x4) k 0 [0, 3] rfl ⟨(hS.subR [0]).sub [] (by decide), hx5⟩ ?_
  rintro k6 x3 w7 ⟨hS8, hl9⟩
  let e1 := rdD p0 x3 z_Tile
  let e3 : Array Value := #[(iv (e1.N)), (iv (e1.E)), (iv (e1.S)), (iv (e1.W))]
  let e4 : Nat × Value := (3, (iv x3))
  let e7 := (adr Aa).add ((x3).toNat * 4)
  let e9 := iv (e1.N)
  let e10 := iv (e1.E)
  let e11 := iv (e1.S)
  let e12 := iv (e1.W)
  cases k6 with
  | zero => rw [ref01_Valid.l0] at hl9; cases hl9
  | succ k6 =>
   rw [ref01_Valid.l0] at hl9
   refine WC.seq (WC.seq (WC.region ?_))
   refine sg 4 [] [0, 3, 11] [e2, e4, (11, (bv (decide (x3 < (p0.length : Int)))))] (by kernel_rfl) ?_
   refine WL.done rfl (WX.next ?_)
   rcases br_some hl9 with ⟨h10, hl9⟩ | ⟨h10, hl9⟩
   ·refine WC.condT2 (fun fb => by kernel_rfl) h10 ?_
    refine WC.skip (WX.next (WC.seq (WC.block (WC.seq (WC.region ?_)))))
    refine sg 2 [] [0, 3, 14, 15] [e2, e4, (14, (sv Aa p0 ca)), (15, (iv x3))] (by kernel_rfl) ?_
    obtain ⟨h11, hl9⟩ := as_some hl9
    refine seg 4 [.v e9, .v e10, .v e11, .v e12] [0, 3, 17] [e2, e4, (17, (.agg e3))] [.idx Aa x3 p0.length, .cell e7 e9, .cell (e7.add 1) e10, .cell (e7.add 2) e11, .cell (e7.add 3) e12] (fun fb => by kernel_rfl) rfl ⟨rowR.adr (hS8.rd 0).1 h11.1 h11.2, rowR.cell (hS8.rd 0).1 z_Tile h11.1 h11.2 0 rfl, rowR.cell (hS8.rd 0).1 z_Tile h11.1 h11.2 1 rfl, rowR.cell (hS8.rd 0).1 z_Tile h11.1 h11.2 2 rfl, rowR.cell (hS8.rd 0).1 z_Tile h11.1 h11.2 3 rfl, trivial⟩ ?_
    refine WL.new hS8 4 [] (fun g => (pt g)) (.cells #[(iv 0), (iv 0), (iv 0), (iv 0)] 44 (0, 0)) [] (fun fb g => by kernel_rfl) trivial (fun g12 w13 hS14 => ?_)
    refine ⟨trivial, ?_⟩
    refine WL.store hS14 0 rfl [(0, e9), (1, e10), (2, e11), (3, e12)] e3 (fun fb => by kernel_rfl) (by kernel_rfl) rfl [] (by decide) (by decide) (fun w15 hS16 => ?_)
    refine ⟨trivial, ?_⟩
    refine WL.done rfl (WX.next (WC.seq ?_))
    refine WC.regionD ([(1, ⟨g12, 0, none⟩, e9), (6, ⟨g12, 1, none⟩, e10), (12, ⟨g12, 2, none⟩, e11), (18, ⟨g12, 3, none⟩, e12), (26, ⟨g12, 0, none⟩, e9), (26, ⟨g12, 1, none⟩, e10), (26, ⟨g12, 2, none⟩, e11), (26, ⟨g12, 3, none⟩, e12)], [0, 1, 3, 4, 5, 6, 8, 9, 10, 11, 12, 14, 15, 16, 17, 18, 20, 21, 22, 23, 24, 25, 26, 28, 29], [[], [0], [0, 1], [0, 1, 2], [0, 1, 2, 3], [0, 1, 2, 3, 4], [0, 1, 2, 3, 4, 5], [0, 1, 2, 3, 4, 5, 6], [0, 1, 2, 3, 4, 5, 6, 7], [0, 1, 2, 3, 4, 5, 6, 7, 8], [0, 1, 2, 3, 4, 5, 6, 7, 8, 9], [0, 1, 2, 3, 4, 5, 6, 7, 8, 9, 10], [0, 1, 2, 3, 4, 5, 6, 7, 8, 9, 10, 11], [0, 1, 2, 3, 4, 5, 6, 7, 8, 9, 10, 11, 12], [0, 1, 2, 3, 4, 5, 6, 7, 8, 9, 10, 11, 12, 13], [0, 1, 2, 3, 4, 5, 6, 7, 8, 9, 10, 11, 12, 13, 14], [0, 1, 2, 3, 4, 5, 6, 7, 8, 9, 10, 11, 12, 13, 14, 15], [0, 1, 2, 3, 4, 5, 6, 7, 8, 9, 10, 11, 12, 13, 14, 15, 16], [0, 1, 2, 3, 4, 5, 6, 7, 8, 9, 10, 11, 12, 13, 14, 15, 16, 17], [0, 1, 2, 3, 4, 5, 6, 7, 8, 9, 10, 11, 12, 13, 14, 15, 16, 17, 18], [0, 1, 2, 3, 4, 5, 6, 7, 8, 9, 10, 11, 12, 13, 14, 15, 16, 17, 18, 19], [0, 1, 2, 3, 4, 5, 6, 7, 8, 9, 10, 11, 12, 13, 14, 15, 16, 17, 18, 19, 20], [0, 1, 2, 3, 4, 5, 6, 7, 8, 9, 10, 11, 12, 13, 14, 15, 16, 17, 18, 19, 20, 21], e5, e5, [0, 1, 2, 3, 4, 5, 6, 7, 8, 9, 10, 11, 12, 13, 14, 15, 16, 17, 18, 19, 20, 21, 22, 23, 24], e5, [0, 1, 2, 3, 4, 5, 6, 7, 8, 9, 10, 11, 12, 13, 14, 15, 16, 17, 18, 19, 20, 21, 22, 23, 24, 25, 26], [0, 1, 2, 3, 4, 5, 6, 7, 8, 9, 10, 11, 12, 13, 14, 15, 16, 17, 18, 19, 20, 21, 22, 23, 24, 25, 26, 27], [0, 1, 2, 3, 4, 5, 6, 7, 8, 9, 10, 11, 12, 13, 14, 15, 16, 17, 18, 19, 20, 21, 22, 23, 24, 25, 26, 27, 28]]) [[0, 1, 2, 3, 4, 5, 6, 7, 8, 9, 10, 11, 12, 13, 14, 15, 16, 17, 18, 19, 20, 21, 22, 23, 24, 25, 26, 27, 28, 29]] (by kernel_rfl) (by kernel_rfl) (NoPanic.seq (NoPanic.block (NoPanic.seq (NoPanic.seq (NoPanic.block (NoPanic.seq (NoPanic.body))))))) ?_
    have hS18 := hS16.drew
    revert hS18
    generalize World.drew w15 = w17
    intro hS18
    refine ⟨⟨hS18.cell 0 rfl 0 rfl, hS18.cell 0 rfl 1 rfl, hS18.cell 0 rfl 2 rfl, hS18.cell 0 rfl 3 rfl, hS18.cell 0 rfl 0 rfl, hS18.cell 0 rfl 1 rfl, hS18.cell 0 rfl 2 rfl, hS18.cell 0 rfl 3 rfl, trivial⟩, forallC ?_ (forallN)⟩
    refine segF 2 [.v e9] [0, 3, 4, 19] [e2, e4, (4, (pt g12)), (19, e9)] [] [0] [(1, ⟨g12, 0, none⟩, e9)] (fun fb => by kernel_rfl) rfl trivial rfl ?_
    obtain ⟨t19, ht22, hl9⟩ := bind_some hl9
    refine WL.call (some 20) 54 #[e9] (fun fb => by kernel_rfl) (ref01_colour_calls (e1.N) t19 _ ht22) (fun v w23 hR24 => ?_)
    obtain ⟨rfl, hk_⟩ := hR24
    have hS25 := hS18.keepN hk_
    refine ⟨⟨hS25.cell 0 rfl 1 rfl, hS25.cell 0 rfl 2 rfl, hS25.cell 0 rfl 3 rfl, hS25.cell 0 rfl 0 rfl, hS25.cell 0 rfl 1 rfl, hS25.cell 0 rfl 2 rfl, hS25.cell 0 rfl 3 rfl, trivial⟩, ?_⟩
    refine sg 5 [] [0, 3, 4, 22] [e2, e4, (4, (pt g12)), (22, (bv (!t19)))] (by kernel_rfl) ?_
    obtain ⟨x26, hx27, hl9⟩ := bind_some hl9
    refine WL.cutW (T := Bool) 10 (fun t => [e2, e4, (4, (pt g12)), (27, (bv t))]) (fun t w1 => (St NoS w w1 e6 [blk g12 (.cells e3 44 (0, 0))] ∧ x26 = t) ∧ CellsOK [] w1) (fun K => ?_) ?_
    ·
     rcases br_some hx27 with ⟨h28, hx27⟩ | ⟨h28, hx27⟩
     ·
      refine WL.setB 22 h28 rfl ?_
      refine sg 10 [] [0, 3, 4, 27] [e2, e4, (4, (pt g12)), (27, (bv true))] (by kernel_rfl) ?_
      injection hx27 with hx27
      exact WL.to K true [0, 3, 4, 27] rfl ⟨⟨(hS25.subR [0]).sub [0] (by decide), hx27.symm⟩, trivial⟩
     refine WL.setB 22 h28 rfl ?_
     refine segF 7 [.v e10] [0, 3, 4, 22, 24] [e2, e4, (4, (pt g12)), (22, (bv false)), (24, e10)] [] [1] [(6, ⟨g12, 1, none⟩, e10)] (fun fb => by kernel_rfl) rfl trivial rfl ?_
     obtain ⟨t29, ht30, hx27⟩ := bind_some hx27
     refine WL.call (some 25) 54 #[e10] (fun fb => by kernel_rfl) (ref01_colour_calls (e1.E) t29 _ ht30) (fun v w31 hR32 => ?_)
     obtain ⟨rfl, hk_⟩ := hR32
     have hS33 := hS25.keepN hk_
     refine ⟨⟨hS33.cell 0 rfl 2 rfl, hS33.cell 0 rfl 3 rfl, hS33.cell 0 rfl 0 rfl, hS33.cell 0 rfl 1 rfl, hS33.cell 0 rfl 2 rfl, hS33.cell 0 rfl 3 rfl, trivial⟩, ?_⟩
     refine sg 10 [] [0, 3, 4, 27] [e2, e4, (4, (pt g12)), (27, (bv (!t29)))] (by kernel_rfl) ?_
     injection hx27 with hx27
     exact WL.to K (!t29) [0, 3, 4, 27] rfl ⟨⟨(hS33.subR [0]).sub [0] (by decide), hx27.symm⟩, trivial⟩
    rintro y34 w36 ⟨⟨hS37, hq35⟩, hF38⟩
    subst hq35
    refine sg 11 [] [0, 3, 4, 28] [e2, e4, (4, (pt g12)), (28, (bv x26))] (by kernel_rfl) ?_
    obtain ⟨x39, hx40, hl9⟩ := bind_some hl9
    refine WL.cutW (T := Bool) 16 (fun t => [e2, e4, (4, (pt g12)), (33, (bv t))]) (fun t w1 => (St NoS w w1 e6 [blk g12 (.cells e3 44 (0, 0))] ∧ x39 = t) ∧ CellsOK [] w1) (fun K => ?_) ?_
    ·
     rcases br_some hx40 with ⟨h41, hx40⟩ | ⟨h41, hx40⟩
     ·
      refine WL.setB 28 h41 rfl ?_
      refine sg 16 [] [0, 3, 4, 33] [e2, e4, (4, (pt g12)), (33, (bv true))] (by kernel_rfl) ?_
      injection hx40 with hx40
      exact WL.to K true [0, 3, 4, 33] rfl ⟨⟨(hS37.subR [0]).sub [0] (by decide), hx40.symm⟩, trivial⟩
     refine WL.setB 28 h41 rfl ?_
     refine segF 13 [.v e11] [0, 3, 4, 28, 30] [e2, e4, (4, (pt g12)), (28, (bv false)), (30, e11)] [] [2] [(12, ⟨g12, 2, none⟩, e11)] (fun fb => by kernel_rfl) rfl trivial rfl ?_
     obtain ⟨t42, ht43, hx40⟩ := bind_some hx40
     refine WL.call (some 31) 54 #[e11] (fun fb => by kernel_rfl) (ref01_colour_calls (e1.S) t42 _ ht43) (fun v w44 hR45 => ?_)
     obtain ⟨rfl, hk_⟩ := hR45
     have hS46 := hS37.keepN hk_
     refine ⟨⟨hS46.cell 0 rfl 3 rfl, hS46.cell 0 rfl 0 rfl, hS46.cell 0 rfl 1 rfl, hS46.cell 0 rfl 2 rfl, hS46.cell 0 rfl 3 rfl, trivial⟩, ?_⟩
     refine sg 16 [] [0, 3, 4, 33] [e2, e4, (4, (pt g12)), (33, (bv (!t42)))] (by kernel_rfl) ?_
     injection hx40 with hx40
     exact WL.to K (!t42) [0, 3, 4, 33] rfl ⟨⟨(hS46.subR [0]).sub [0] (by decide), hx40.symm⟩, trivial⟩
    rintro y47 w49 ⟨⟨hS50, hq48⟩, hF51⟩
    subst hq48
    refine sg 17 [] [0, 3, 4, 34] [e2, e4, (4, (pt g12)), (34, (bv x39))] (by kernel_rfl) ?_
    obtain ⟨x52, hx53, hl9⟩ := bind_some hl9
    refine WL.cutW (T := Bool) 22 (fun t => [e2, e4, (4, (pt g12)), (39, (bv t))]) (fun t w1 => (St NoS w w1 e6 [blk g12 (.cells e3 44 (0, 0))] ∧ x52 = t) ∧ CellsOK [] w1) (fun K => ?_) ?_
    ·
     rcases br_some hx53 with ⟨h54, hx53⟩ | ⟨h54, hx53⟩
     ·
      refine WL.setB 34 h54 rfl ?_
      refine sg 22 [] [0, 3, 4, 39] [e2, e4, (4, (pt g12)), (39, (bv true))] (by kernel_rfl) ?_
      injection hx53 with hx53
      exact WL.to K true [0, 3, 4, 39] rfl ⟨⟨(hS50.subR [0]).sub [0] (by decide), hx53.symm⟩, trivial⟩
     refine WL.setB 34 h54 rfl ?_
     refine segF 19 [.v e12] [0, 3, 4, 34, 36] [e2, e4, (4, (pt g12)), (34, (bv false)), (36, e12)] [] [3] [(18, ⟨g12, 3, none⟩, e12)] (fun fb => by kernel_rfl) rfl trivial rfl ?_
     obtain ⟨t55, ht56, hx53⟩ := bind_some hx53
     refine WL.call (some 37) 54 #[e12] (fun fb => by kernel_rfl) (ref01_colour_calls (e1.W) t55 _ ht56) (fun v w57 hR58 => ?_)
     obtain ⟨rfl, hk_⟩ := hR58
     have hS59 := hS50.keepN hk_
     refine ⟨⟨hS59.cell 0 rfl 0 rfl, hS59.cell 0 rfl 1 rfl, hS59.cell 0 rfl 2 rfl, hS59.cell 0 rfl 3 rfl, trivial⟩, ?_⟩
     refine sg 22 [] [0, 3, 4, 39] [e2, e4, (4, (pt g12)), (39, (bv (!t55)))] (by kernel_rfl) ?_
     injection hx53 with hx53
     exact WL.to K (!t55) [0, 3, 4, 39] rfl ⟨⟨(hS59.subR [0]).sub [0] (by decide), hx53.symm⟩, trivial⟩
    rintro y60 w62 ⟨⟨hS63, hq61⟩, hF65⟩
    subst hq61
    refine sg 23 [] [0, 3, 4, 40] [e2, e4, (4, (pt g12)), (40, (bv x52))] (by kernel_rfl) ?_
    obtain ⟨x66, hx67, hl9⟩ := bind_some hl9
    refine WL.cutW (T := Bool) 30 (fun t => [e2, e4, (47, (bv t))]) (fun t w1 => (St NoS w w1 e6 [] ∧ x66 = t) ∧ CellsOK [] w1) (fun K => ?_) ?_
    ·
     rcases br_some hx67 with ⟨h68, hx67⟩ | ⟨h68, hx67⟩
     ·
      refine WL.setB 40 h68 rfl ?_
      refine sg 30 [] [0, 3, 47] [e2, e4, (47, (bv true))] (by kernel_rfl) ?_
      injection hx67 with hx67
      exact WL.to K true [0, 3, 47] rfl ⟨⟨(hS63.subR [0]).sub [] (by decide), hx67.symm⟩, trivial⟩
     refine WL.setB 40 h68 rfl ?_
     refine sg 25 [] [0, 3, 4, 40, 41, 42] [e2, e4, (4, (pt g12)), (40, (bv false)), (41, (sv Aa p0 ca)), (42, (iv x3))] (by kernel_rfl) ?_
     obtain ⟨h69, hx67⟩ := as_some hx67
     refine seg 26 [] [0, 3, 4, 40, 43] [e2, e4, (4, (pt g12)), (40, (bv false)), (43, (.slice e8 (x3.toNat - (0 : Int).toNat) e13))] [.idx (some ⟨0, 0, none⟩) (0 : Int) (x3.toNat + 1), .idx (some ⟨0, 0, none⟩) x3 (ca + 1)] (fun fb => by kernel_rfl) rfl ⟨cut1 h69.1 h69.2.1, cut2 h69.1 h69.2.1 h69.2.2 (hS63.rd 0).1.2, trivial⟩ ?_
     refine WL.reE [0, 3, 4, 40, 43] [(0, (.slice Aa p0.length ca)), (3, (iv x3)), (4, (pt g12)), (40, (.bool false)), (43, (.slice (subA Aa ca (0 : Int).toNat 4) (x3.toNat - (0 : Int).toNat) (ca - (0 : Int).toNat)))] [(0, (.slice Aa p0.length ca)), (3, (iv x3)), (4, (pt g12)), (40, (.bool false)), (43, (.slice (subA Aa ca (0 : Int).toNat 4) (cut p0 (0 : Int) x3).length (ca - (0 : Int).toNat)))] rfl (by rw [cut_length h69.1 h69.2.1 h69.2.2]) ?_
     have hS70 := hS63.cutR 0 rfl h69.1 h69.2.1 h69.2.2
     refine segF 27 [.v e9, .v e10, .v e11, .v e12] [0, 3, 40, 43, 44] [e2, e4, (40, (bv false)), (43, (sv e8 (cut p0 (0 : Int) x3) e13)), (44, (.agg e3))] [] [4, 5, 6, 7] [(26, ⟨g12, 0, none⟩, e9), (26, ⟨g12, 1, none⟩, e10), (26, ⟨g12, 2, none⟩, e11), (26, ⟨g12, 3, none⟩, e12)] (fun fb => by kernel_rfl) rfl trivial rfl ?_
     obtain ⟨t71, ht72, hx67⟩ := bind_some hx67
     refine WL.call (some 45) 55 #[(sv e8 (cut p0 (0 : Int) x3) e13), (.agg e3)] (fun fb => by kernel_rfl) (ref01_Index_calls _ (cut p0 (0 : Int) x3) e1 e8 e13 t71 _ (hS70.rd 0) ht72) (fun v w73 hR74 => ?_)
     obtain ⟨rfl, hk_⟩ := hR74
     have hS75 := hS70.keepN hk_
     refine ⟨trivial, ?_⟩
     refine sg 30 [] [0, 3, 47] [e2, e4, (47, (bv (decide (t71 ≥ 0))))] (by kernel_rfl) ?_
     injection hx67 with hx67
     exact WL.to K (decide (t71 ≥ 0)) [0, 3, 47] rfl ⟨⟨(hS75.subR [1]).sub [] (by decide), hx67.symm⟩, trivial⟩
    rintro y76 w78 ⟨⟨hS79, hq77⟩, hF80⟩
    subst hq77
    refine WL.done rfl (WX.next ?_)
    rcases br_some hl9 with ⟨h81, hl9⟩ | ⟨h81, hl9⟩
    ·refine WC.condT2 (fun fb => by kernel_rfl) h81 ?_
     refine WC.seq (WC.region ?_)
     refine sg 1 [] [2] [(2, (bv false))] (by kernel_rfl) ?_
     refine WL.done rfl (WX.next ?_)
     refine WC.ret ?_
     injection hl9 with hl9
     subst hl9
     injection hf with hf
     subst hf
     exact WX.blockR (WX.thenR (WX.thenR (WX.blockR (WX.thenR (WX.ret_ [] (bv false) [] (fun fb => by kernel_rfl) trivial ⟨_, rfl, rfl, hS79.keep⟩)))))
    refine WC.condF2 (fun fb => by kernel_rfl) h81 ?_
    refine WC.skip ?_
    refine WX.blockN (WX.next ?_)
    refine WC.region ?_
    refine sg 3 [] [0, 3] [e2, (3, (iv (w64 (x3 + 1))))] (by kernel_rfl) ?_
    refine WL.done rfl ?_
    exact WX.again k6 (Nat.lt_succ_self _) (w64 (x3 + 1)) [0, 3] rfl ⟨(hS79.subR [0]).sub [] (by decide), hl9⟩
   refine WC.condF2 (fun fb => by kernel_rfl) h10 ?_
   refine WC.exit ?_
   injection hl9 with hl9
   exact WX.thenX (WX.thenX (WX.blockHere (WX.to Kx4 () [] rfl ⟨(hS8.subR [0]).sub [] (by decide), hl9.symm⟩)))
 rintro y85 w82 ⟨hS83, hq84⟩
 subst hq84
 have hf := sum_inr hf
 refine WX.next (WC.seq (WC.region ?_))
 refine sg 1 [] [2] [(2, (bv true))] (by kernel_rfl) ?_
 refine WL.done rfl (WX.next ?_)
 refine WC.ret ?_
 injection hf with hf
 subst hf
 exact WX.ret_ [] (bv true) [] (fun fb => by kernel_rfl) trivial ⟨_, rfl, rfl, hS83.keep⟩
theorem ref06_IsRow_calls (k : Nat) (p0 : List Tile) (p1 : List Int) (Aa : Option Addr) (ca : Nat) (Ab : Option Addr) (cb : Nat) (r : Bool) (w : World) (hR0 : RO NoS w (rowR enc_Tile Aa ca p0)) (hR1 : RO NoS w (rowR encInt Ab cb p1)) (hf : ref06_IsRow k p0 p1 = some r) :
  CallsR Tryz.prog 15 #[(sv Aa p0 ca), (sv Ab p1 cb)] w (fun v w' => v = (bv r) ∧ Keeps NoS w w') := by
 have hS : St NoS w w [rowR enc_Tile Aa ca p0, rowR encInt Ab cb p1] [] := St.init (ro_cons hR0 (ro_cons hR1 (ro_nil _ _)))
 refine enter 58 Tryz.func15 rfl Tryz.ntmps15 rfl ?_
 unfold ref06_IsRow at hf
 refine WC.seq (WC.region ?_)
 refine sg 1 [] [0, 1] [(0, (sv Aa p0 ca)), (1, (sv Ab p1 cb))] (by kernel_rfl) ?_
 refine WL.done rfl (WX.next (WC.seq (WC.seq (WC.region ?_))))
 refine sg 4 [] [0, 1, 9] [(0, (sv Aa p0 ca)), (1, (sv Ab p1 cb)), (9, (bv (decide ((p1.length : Int) < 1))))] (by kernel_rfl) ?_
 refine WL.cutV (T := Bool) 8 (fun t => [(13, (bv t)), (0, (sv Aa p0 ca)), (1, (sv Ab p1 cb))]) (fun t => ((decide ((p1.length : Int) < 1)) || (decide ((p1.length : Int) > 40000))) = t) (fun K => ?_) ?_
 ·
  rcases Bool.eq_false_or_eq_true (decide ((p1.length : Int) < 1)) with h3 | h3
  ·
   refine WL.setB 9 h3 rfl ?_
   refine sg 8 [] [0, 1, 13] [(0, (sv Aa p0 ca)), (1, (sv Ab p1 cb)), (13, (bv true))] (by kernel_rfl) ?_
   exact WL.toV K true [13, 0, 1] rfl (by first | (rw [h3]; done) | (rw [h3]; rfl))
  refine WL.setB 9 h3 rfl ?_
  refine sg 8 [] [0, 1, 13] [(0, (sv Aa p0 ca)), (1, (sv Ab p1 cb)), (13, (bv (decide ((p1.length : Int) > 40000))))] (by kernel_rfl) ?_
  exact WL.toV K (decide ((p1.length : Int) > 40000)) [13, 0, 1] rfl (by first | (rw [h3]; done) | (rw [h3]; rfl))
 rintro b4 rfl
 refine WL.done rfl (WX.next ?_)
 rcases br_some hf with ⟨h5, hf⟩ | ⟨h5, hf⟩
 ·refine WC.condT2 (fun fb => by kernel_rfl) h5 ?_
  refine WC.seq (WC.region ?_)
  refine sg 1 [] [4] [(4, (bv false))] (by kernel_rfl) ?_
  refine WL.done rfl (WX.next ?_)
  refine WC.ret ?_
  injection hf with hf
  subst hf
  exact WX.thenR (WX.ret_ [] (bv false) [] (fun fb => by kernel_rfl) trivial ⟨_, rfl, rfl, hS.keep⟩)
 refine WC.condF2 (fun fb => by kernel_rfl) h5 ?_
 refine WC.skip (WX.next (WC.seq (WC.seq (WC.region ?_))))
 refine sg 1 [] [0, 1, 5] [(0, (sv Aa p0 ca)), (1, (sv Ab p1 cb)), (5, (iv 0))] (by kernel_rfl) ?_
 refine WL.done rfl (WX.next ?_)
 obtain ⟨x8, hx9, hf⟩ := bind_some hf
 let e5 : List Nat := [0, 1, 2, 3, 4, 5, 6, 7, 8, 9, 10, 11, 12, 13, 14, 15, 16, 17]
 let e1 := [[], [], [0, 1], [0, 1, 2], [0, 1, 2, 3], [0, 1, 2, 3, 4], [0, 1, 2, 3, 4, 5], [0, 1, 2, 3, 4, 5], [0, 1, 2, 3, 4, 5, 6, 7], [0, 1, 2, 3, 4, 5, 6, 7, 8], [0, 1, 2, 3, 4, 5], [0, 1, 2, 3, 4, 5, 10], [0, 1, 2, 3, 4, 5, 6, 7, 8, 9, 10, 11], [0, 1, 2, 3, 4, 5, 6, 7, 8, 9, 10, 11, 12], [0, 1, 2, 3, 4, 5, 6, 7, 8, 9, 10, 11, 12, 13], [0, 1, 2, 3, 4, 5, 6, 7, 8, 9, 10, 11, 12, 13, 14], [0, 1, 2, 3, 4, 5, 6, 7, 8, 9, 10, 11, 12, 13, 14, 15], [0, 1, 2, 3, 4, 5, 6, 7, 8, 9, 10, 11, 12, 13, 14, 15, 16], e5, e5, e5, [0, 1, 2, 3, 4, 5, 6, 7, 8, 9, 10, 11, 12, 13, 14, 15, 16, 17, 20], [0, 1, 2, 3, 4, 5, 6, 7, 8, 9, 10, 11, 12, 13, 14, 15, 16, 17, 19, 20, 21], [0, 1, 2, 3, 4, 5, 6, 7, 8, 9, 10, 11, 12, 13, 14, 15, 16, 17, 19, 20, 21, 22], [0, 1, 2, 3, 4, 5, 6, 7, 8, 9, 10, 11, 12, 13, 14, 15, 16, 17, 18, 19, 20, 21, 22, 23], [0, 1, 2, 3, 4, 5, 6, 7, 8, 9, 10, 11, 12, 13, 14, 15, 16, 17, 18, 19, 20, 21, 22, 23, 24], [0, 1, 2, 3, 4, 5, 6, 7, 8, 9, 10, 11, 12, 13, 14, 15, 16, 17, 18, 19, 20, 21, 22, 23, 24, 25], e5, e5, e5, [0, 1, 2, 3, 4, 5, 6, 7, 8, 9, 10, 11, 12, 13, 14, 15, 16, 17, 28, 29], [0, 1, 2, 3, 4, 5, 6, 7, 8, 9, 10, 11, 12, 13, 14, 15, 16, 17, 28, 29, 30], [0, 1, 2, 3, 4, 5, 6, 7, 8, 9, 10, 11, 12, 13, 14, 15, 16, 17, 27, 28, 29, 30, 31], [0, 1, 2, 3, 4, 5, 6, 7, 8, 9, 10, 11, 12, 13, 14, 15, 16, 17, 27, 28, 29, 30, 31, 32], [0, 1, 2, 3, 4, 5, 6, 7, 8, 9, 10, 11, 12, 13, 14, 15, 16, 17, 27, 28, 29, 30, 31, 32, 33], [0, 1, 2, 3, 4, 5, 6, 7, 8, 9, 10, 11, 12, 13, 14, 15, 16, 17, 18, 19, 20, 21, 22, 23, 24, 25, 26, 27, 28, 29, 30, 31, 32, 33, 34], [0, 1, 2, 3, 4, 5, 6, 7, 8, 9, 10, 11, 12, 13, 14, 15, 16, 17, 18, 19, 20, 21, 22, 23, 24, 25, 26, 27, 28, 29, 30, 31, 32, 33, 34, 35], [0, 1, 2, 3, 4, 5, 6, 7, 8, 9, 10, 11, 12, 13, 14, 15, 16, 17, 18, 19, 20, 21, 22, 23, 24, 25, 26, 27, 28, 29, 30, 31, 32, 33, 34, 35, 36]]
 let e2 : List Nat := [0, 1, 2, 3, 4, 5, 6, 7, 8, 9, 10, 11, 12, 13, 14, 15, 16, 17, 18, 19, 20, 21, 22, 23, 24, 25, 26, 27, 28, 29, 30, 31, 32, 33, 34, 35, 36, 37]
 let e9 : Nat × Value := (0, (sv Aa p0 ca))
 let e10 : Nat × Value := (1, (sv Ab p1 cb))
 let e12 : List Own := [rowR enc_Tile Aa ca p0, rowR encInt Ab cb p1]
 let e15 : List Nat := [0, 1, 5, 57]
 refine WC.cutN (T := Unit) (fun t => []) (fun t w1 => St NoS w w1 e12 [] ∧ x8 = .inr t) (fun Kx8 => ?_) ?_
 ·
  refine WC.block ?_
  refine WC.loop (T := Int) (fun t => [e9, e10, (5, (iv t))]) (fun n t w1 => St NoS w w1 e12 [] ∧ ref06_IsRow.l0 n t p0 p1 = some x8) k 0 [0, 1, 5] rfl ⟨(hS.subR [0, 1]).sub [] (by decide), hx9⟩ ?_
  rintro k10 x7 w11 ⟨hS12, hl13⟩
  let e3 := (adr Ab).add ((x7).toNat * 1)
  let e4 := rdD p1 x7 0
  let e6 : List (Nat × Value) := [e9, e10, (5, (iv x7)), (25, (bv (decide (e4 < 0))))]
  let e7 := rdD p1 (w64 (x7 - 1)) 0
  let e8 : List (Nat × Value) := [e9, e10, (5, (iv x7)), (34, (bv (decide (e4 ≥ (p0.length : Int)))))]
  let e11 : Nat × Addr × Value := (3, e3, (iv e4))
  let e13 := (rdD p0 e7 z_Tile).E
  let e14 := (rdD p0 e4 z_Tile).W
  let e16 : Nat × Addr × Value := (9, e3, (iv e4))
  let e17 : Nat × Value := (5, (iv x7))
  let e18 : Nat × Addr × Value := (23, ((adr Ab).add ((w64 (x7 - 1)).toNat * 1)), (iv e7))
  let e19 : Nat × Addr × Value := (26, (((adr Aa).add ((e7).toNat * 4)).add 1), (iv e13))
  let e20 : Nat × Addr × Value := (34, (((adr Aa).add ((e4).toNat * 4)).add 3), (iv e14))
  cases k10 with
  | zero => rw [ref06_IsRow.l0] at hl13; cases hl13
  | succ k10 =>
   rw [ref06_IsRow.l0] at hl13
   refine WC.seq (WC.seq (WC.region ?_))
   refine sg 4 [] [0, 1, 5, 17] [e9, e10, e17, (17, (bv (decide (x7 < (p1.length : Int)))))] (by kernel_rfl) ?_
   refine WL.done rfl (WX.next ?_)
   rcases br_some hl13 with ⟨h14, hl13⟩ | ⟨h14, hl13⟩
   ·refine WC.condT2 (fun fb => by kernel_rfl) h14 ?_
    refine WC.skip (WX.next (WC.seq (WC.block (WC.seq ?_))))
    obtain ⟨x16, hx17, hl13⟩ := bind_some hl13
    refine WC.cutN (T := Bool) (fun t => [e9, e10, e17, (57, (bv t))]) (fun t w1 => St NoS w w1 e12 [] ∧ x16 = t) (fun Kx16 => ?_) ?_
    ·
     rcases br_some hx17 with ⟨h18, hx17⟩ | ⟨h18, hx17⟩
     ·
      obtain ⟨h21, hx17⟩ := as_some hx17
      refine WC.regionD ([e11], e2, e1) [e2] (by kernel_rfl) (by kernel_rfl) (NoPanic.seq (NoPanic.block (NoPanic.seq (NoPanic.seq (NoPanic.block (NoPanic.seq (NoPanic.body))))))) ?_
      have hS20 := hS12.drew
      revert hS20
      generalize World.drew w11 = w19
      intro hS20
      refine ⟨⟨rowR.cell (hS20.rd 1).1 0 h21.1 h21.2 0 rfl, trivial⟩, forallC ?_ (forallN)⟩
      refine segF 6 [.v (iv e4)] [0, 1, 5, 25] e6 [.idx Ab x7 p1.length] [0] [e11] (fun fb => by kernel_rfl) rfl ⟨rowR.adr (hS20.rd 1).1 h21.1 h21.2, trivial⟩ rfl ?_
      refine WL.setB 25 h18 rfl ?_
      refine sg 38 [] e15 [e9, e10, e17, (57, (bv true))] (by kernel_rfl) ?_
      refine WL.done rfl ?_
      injection hx17 with hx17
      exact WX.to Kx16 true e15 rfl ⟨(hS20.subR [0, 1]).sub [] (by decide), hx17.symm⟩
     rcases br_some hx17 with ⟨h22, hx17⟩ | ⟨h22, hx17⟩
     ·
      obtain ⟨h25, hx17⟩ := as_some hx17
      refine WC.regionD ([e11, e16], e2, e1) [e2] (by kernel_rfl) (by kernel_rfl) (NoPanic.seq (NoPanic.block (NoPanic.seq (NoPanic.seq (NoPanic.block (NoPanic.seq (NoPanic.body))))))) ?_
      have hS24 := hS12.drew
      revert hS24
      generalize World.drew w11 = w23
      intro hS24
      refine ⟨⟨rowR.cell (hS24.rd 1).1 0 h25.1 h25.2 0 rfl, rowR.cell (hS24.rd 1).1 0 h25.1 h25.2 0 rfl, trivial⟩, forallC ?_ (forallN)⟩
      refine segF 6 [.v (iv e4)] [0, 1, 5, 25] e6 [.idx Ab x7 p1.length] [0] [e11] (fun fb => by kernel_rfl) rfl ⟨rowR.adr (hS24.rd 1).1 h25.1 h25.2, trivial⟩ rfl ?_
      refine WL.setB 25 h18 rfl ?_
      refine segF 15 [.v (iv e4)] [0, 1, 5, 34] e8 [.idx Ab x7 p1.length] [1] [e16] (fun fb => by kernel_rfl) rfl ⟨rowR.adr (hS24.rd 1).1 h25.1 h25.2, trivial⟩ rfl ?_
      refine WL.setB 34 h22 rfl ?_
      refine sg 38 [] e15 [e9, e10, e17, (57, (bv true))] (by kernel_rfl) ?_
      refine WL.done rfl ?_
      injection hx17 with hx17
      exact WX.to Kx16 true e15 rfl ⟨(hS24.subR [0, 1]).sub [] (by decide), hx17.symm⟩
     rcases br_some hx17 with ⟨h26, hx17⟩ | ⟨h26, hx17⟩
     ·
      obtain ⟨h29, hx17⟩ := as_some hx17
      obtain ⟨h30, hx17⟩ := as_some hx17
      obtain ⟨h31, hx17⟩ := as_some hx17
      obtain ⟨h32, hx17⟩ := as_some hx17
      refine WC.regionD ([e11, e16, e18, e19, (31, e3, (iv e4)), e20], e2, e1) [e2] (by kernel_rfl) (by kernel_rfl) (NoPanic.seq (NoPanic.block (NoPanic.seq (NoPanic.seq (NoPanic.block (NoPanic.seq (NoPanic.body))))))) ?_
      have hS28 := hS12.drew
      revert hS28
      generalize World.drew w11 = w27
      intro hS28
      refine ⟨⟨rowR.cell (hS28.rd 1).1 0 h29.1 h29.2 0 rfl, rowR.cell (hS28.rd 1).1 0 h29.1 h29.2 0 rfl, rowR.cell (hS28.rd 1).1 0 h30.1 h30.2 0 rfl, rowR.cell (hS28.rd 0).1 z_Tile h31.1 h31.2 1 rfl, rowR.cell (hS28.rd 1).1 0 h29.1 h29.2 0 rfl, rowR.cell (hS28.rd 0).1 z_Tile h32.1 h32.2 3 rfl, trivial⟩, forallC ?_ (forallN)⟩
      refine segF 6 [.v (iv e4)] [0, 1, 5, 25] e6 [.idx Ab x7 p1.length] [0] [e11] (fun fb => by kernel_rfl) rfl ⟨rowR.adr (hS28.rd 1).1 h29.1 h29.2, trivial⟩ rfl ?_
      refine WL.setB 25 h18 rfl ?_
      refine segF 15 [.v (iv e4)] [0, 1, 5, 34] e8 [.idx Ab x7 p1.length] [1] [e16] (fun fb => by kernel_rfl) rfl ⟨rowR.adr (hS28.rd 1).1 h29.1 h29.2, trivial⟩ rfl ?_
      refine WL.setB 34 h22 rfl ?_
      refine sg 18 [] [0, 1, 5, 34, 37] [e9, e10, e17, (34, (bv false)), (37, (bv (decide (x7 > 0))))] (by kernel_rfl) ?_
      refine WL.setB 37 h26 rfl ?_
      refine segF 38 [.v (iv e7), .v (iv e13), .v (iv e4), .v (iv e14)] e15 [e9, e10, e17, (57, (bv (e13 != e14)))] [.idx Ab (w64 (x7 - 1)) p1.length, .idx Aa e7 p0.length, .idx Ab x7 p1.length, .idx Aa e4 p0.length] [2, 3, 4, 5] [e18, e19, (31, e3, (iv e4)), e20] (fun fb => by kernel_rfl) rfl ⟨rowR.adr (hS28.rd 1).1 h30.1 h30.2, rowR.adr (hS28.rd 0).1 h31.1 h31.2, rowR.adr (hS28.rd 1).1 h29.1 h29.2, rowR.adr (hS28.rd 0).1 h32.1 h32.2, trivial⟩ rfl ?_
      refine WL.done rfl ?_
      injection hx17 with hx17
      exact WX.to Kx16 (e13 != e14) e15 rfl ⟨(hS28.subR [0, 1]).sub [] (by decide), hx17.symm⟩
     obtain ⟨h35, hx17⟩ := as_some hx17
     refine WC.regionD ([e11, e16], e2, e1) [e2] (by kernel_rfl) (by kernel_rfl) (NoPanic.seq (NoPanic.block (NoPanic.seq (NoPanic.seq (NoPanic.block (NoPanic.seq (NoPanic.body))))))) ?_
     have hS34 := hS12.drew
     revert hS34
     generalize World.drew w11 = w33
     intro hS34
     refine ⟨⟨rowR.cell (hS34.rd 1).1 0 h35.1 h35.2 0 rfl, rowR.cell (hS34.rd 1).1 0 h35.1 h35.2 0 rfl, trivial⟩, forallC ?_ (forallN)⟩
     refine segF 6 [.v (iv e4)] [0, 1, 5, 25] e6 [.idx Ab x7 p1.length] [0] [e11] (fun fb => by kernel_rfl) rfl ⟨rowR.adr (hS34.rd 1).1 h35.1 h35.2, trivial⟩ rfl ?_
     refine WL.setB 25 h18 rfl ?_
     refine segF 15 [.v (iv e4)] [0, 1, 5, 34] e8 [.idx Ab x7 p1.length] [1] [e16] (fun fb => by kernel_rfl) rfl ⟨rowR.adr (hS34.rd 1).1 h35.1 h35.2, trivial⟩ rfl ?_
     refine WL.setB 34 h22 rfl ?_
     refine sg 18 [] [0, 1, 5, 34, 37] [e9, e10, e17, (34, (bv false)), (37, (bv (decide (x7 > 0))))] (by kernel_rfl) ?_
     refine WL.setB 37 h26 rfl ?_
     refine sg 38 [] e15 [e9, e10, e17, (57, (bv false))] (by kernel_rfl) ?_
     refine WL.done rfl ?_
     injection hx17 with hx17
     exact WX.to Kx16 false e15 rfl ⟨(hS34.subR [0, 1]).sub [] (by decide), hx17.symm⟩
    rintro y39 w36 ⟨hS37, hq38⟩
    subst hq38
    refine WX.next ?_
    rcases br_some hl13 with ⟨h40, hl13⟩ | ⟨h40, hl13⟩
    ·refine WC.condT2 (fun fb => by kernel_rfl) h40 ?_
     refine WC.seq (WC.region ?_)
     refine sg 1 [] [4] [(4, (bv false))] (by kernel_rfl) ?_
     refine WL.done rfl (WX.next ?_)
     refine WC.ret ?_
     injection hl13 with hl13
     subst hl13
     injection hf with hf
     subst hf
     exact WX.blockR (WX.thenR (WX.thenR (WX.blockR (WX.thenR (WX.ret_ [] (bv false) [] (fun fb => by kernel_rfl) trivial ⟨_, rfl, rfl, hS37.keep⟩)))))
    refine WC.condF2 (fun fb => by kernel_rfl) h40 ?_
    refine WC.skip ?_
    refine WX.blockN (WX.next ?_)
    refine WC.region ?_
    refine sg 3 [] [0, 1, 5] [e9, e10, (5, (iv (w64 (x7 + 1))))] (by kernel_rfl) ?_
    refine WL.done rfl ?_
    exact WX.again k10 (Nat.lt_succ_self _) (w64 (x7 + 1)) [0, 1, 5] rfl ⟨(hS37.subR [0, 1]).sub [] (by decide), hl13⟩
   refine WC.condF2 (fun fb => by kernel_rfl) h14 ?_
   refine WC.exit ?_
   injection hl13 with hl13
   exact WX.thenX (WX.thenX (WX.blockHere (WX.to Kx8 () [] rfl ⟨(hS12.subR [0, 1]).sub [] (by decide), hl13.symm⟩)))
 rintro y44 w41 ⟨hS42, hq43⟩
 subst hq43
 have hf := sum_inr hf
 refine WX.next (WC.seq (WC.region ?_))
 refine sg 1 [] [4] [(4, (bv true))] (by kernel_rfl) ?_
 refine WL.done rfl (WX.next ?_)
 refine WC.ret ?_
 injection hf with hf
 subst hf
 exact WX.ret_ [] (bv true) [] (fun fb => by kernel_rfl) trivial ⟨_, rfl, rfl, hS42.keep⟩
theorem tile_colour_1_calls (p0 : Int)  (r : Bool) (w : World)  (hf : tile_colour_1 p0 = some r) :
  CallsR Tryz.prog 89 #[(iv p0)] w (fun v w' => v = (bv r) ∧ Keeps NoS w w') := by
 have hS : St NoS w w [] [] := St.init (ro_nil _ _)
 refine enter 9 Tryz.func89 rfl Tryz.ntmps89 rfl ?_
 unfold tile_colour_1 at hf
 refine WC.seq (WC.region ?_)
 refine sg 1 [] [0] [(0, (iv p0))] (by kernel_rfl) ?_
 refine WL.done rfl (WX.next (WC.seq (WC.region ?_)))
 refine sg 3 [] [0, 5] [(0, (iv p0)), (5, (bv (decide (p0 < 0))))] (by kernel_rfl) ?_
 refine WL.cutV (T := Bool) 6 (fun t => [(8, (bv t))]) (fun t => ((decide (p0 < 0)) || (decide (p0 ≥ 1000))) = t) (fun K => ?_) ?_
 ·
  rcases Bool.eq_false_or_eq_true (decide (p0 < 0)) with h2 | h2
  ·
   refine WL.setB 5 h2 rfl ?_
   refine sg 6 [] [8] [(8, (bv true))] (by kernel_rfl) ?_
   exact WL.toV K true [8] rfl (by first | (rw [h2]; done) | (rw [h2]; rfl))
  refine WL.setB 5 h2 rfl ?_
  refine sg 6 [] [8] [(8, (bv (decide (p0 ≥ 1000))))] (by kernel_rfl) ?_
  exact WL.toV K (decide (p0 ≥ 1000)) [8] rfl (by first | (rw [h2]; done) | (rw [h2]; rfl))
 rintro b3 rfl
 refine sg 7 [] [2] [(2, (bv ((decide (p0 < 0)) || (decide (p0 ≥ 1000)))))] (by kernel_rfl) ?_
 refine WL.done rfl (WX.next ?_)
 refine WC.ret ?_
 injection hf with hf
 subst hf
 exact WX.ret_ [] (bv ((decide (p0 < 0)) || (decide (p0 ≥ 1000)))) [] (fun fb => by kernel_rfl) trivial ⟨_, rfl, rfl, hS.keep⟩
theorem slices_IndexFunc_int_int_with_tile_colour_1_calls (k : Nat) (p0 : List Int) (Aa : Option Addr) (ca : Nat) (r : Int) (w : World) (hR0 : RO NoS w (rowR encInt Aa ca p0)) (hf : slices_IndexFunc_int_int_with_tile_colour_1 k p0 = some r) :
  CallsR Tryz.prog 91 #[(sv Aa p0 ca), (.func (.func 89) #[] #[])] w (fun v w' => v = (iv r) ∧ Keeps NoS w w') := by
 have hS : St NoS w w [rowR encInt Aa ca p0] [] := St.init (ro_cons hR0 (ro_nil _ _))
 refine enter 19 Tryz.func91 rfl Tryz.ntmps91 rfl ?_
 unfold slices_IndexFunc_int_int_with_tile_colour_1 at hf
 refine WC.seq (WC.region ?_)
 refine sg 1 [] [0, 1] [(0, (sv Aa p0 ca)), (1, (.func (.func 89) #[] #[]))] (by kernel_rfl) ?_
 refine WL.done rfl (WX.next (WC.seq (WC.seq (WC.region ?_))))
 refine sg 3 [] [0, 1, 7, 8] [(0, (sv Aa p0 ca)), (1, (.func (.func 89) #[] #[])), (7, (iv (p0.length : Int))), (8, (iv 0))] (by kernel_rfl) ?_
 refine WL.done rfl (WX.next ?_)
 obtain ⟨x4, hx5, hf⟩ := bind_some hf
 let e1 : Nat × Value := (7, (iv (p0.length : Int)))
 let e2 : Nat × Value := (0, (sv Aa p0 ca))
 refine WC.cutN (T := Unit) (fun t => []) (fun t w1 => St NoS w w1 [rowR encInt Aa ca p0] [] ∧ x4 = .inr t) (fun Kx4 => ?_) ?_
 ·
  refine WC.block ?_
  refine WC.loop (T := Int) (fun t => [e2, (1, (.func (.func 89) #[] #[])), e1, (8, (iv t))]) (fun n t w1 => St NoS w w1 [rowR encInt Aa ca p0] [] ∧ slices_IndexFunc_int_int_with_tile_colour_1.l0 n t p0 = some x4) k 0 [0, 1, 7, 8] rfl ⟨(hS.subR [0]).sub [] (by decide), hx5⟩ ?_
  rintro k6 x3 w7 ⟨hS8, hl9⟩
  cases k6 with
  | zero => rw [slices_IndexFunc_int_int_with_tile_colour_1.l0] at hl9; cases hl9
  | succ k6 =>
   rw [slices_IndexFunc_int_int_with_tile_colour_1.l0] at hl9
   refine WC.seq (WC.region ?_)
   refine sg 1 [] [0, 1, 7, 8, 9] [e2, (1, (.func (.func 89) #[] #[])), e1, (8, (iv x3)), (9, (bv (decide (x3 < (p0.length : Int)))))] (by kernel_rfl) ?_
   refine WL.done rfl (WX.next (WC.seq ?_))
   rcases br_some hl9 with ⟨h10, hl9⟩ | ⟨h10, hl9⟩
   ·refine WC.condT2 (fun fb => by kernel_rfl) h10 ?_
    refine WC.skip (WX.next (WC.seq (WC.block (WC.seq (WC.region ?_)))))
    refine sg 2 [] [0, 1, 5, 7, 8] [e2, (1, (.func (.func 89) #[] #[])), (5, (iv x3)), e1, (8, (iv x3))] (by kernel_rfl) ?_
    refine WL.done rfl (WX.next (WC.seq (WC.region ?_)))
    refine sg 3 [] [0, 1, 5, 7, 8, 11, 12, 13] [e2, (1, (.func (.func 89) #[] #[])), (5, (iv x3)), e1, (8, (iv x3)), (11, (.func (.func 89) #[] #[])), (12, (sv Aa p0 ca)), (13, (iv x3))] (by kernel_rfl) ?_
    obtain ⟨h11, hl9⟩ := as_some hl9
    refine seg 5 [.v (iv (rdD p0 x3 0))] [0, 1, 5, 7, 8, 11, 15] [e2, (1, (.func (.func 89) #[] #[])), (5, (iv x3)), e1, (8, (iv x3)), (11, (.func (.func 89) #[] #[])), (15, (iv (rdD p0 x3 0)))] [.idx Aa x3 p0.length, .cell ((adr Aa).add ((x3).toNat * 1)) (iv (rdD p0 x3 0))] (fun fb => by kernel_rfl) rfl ⟨rowR.adr (hS8.rd 0).1 h11.1 h11.2, rowR.cell (hS8.rd 0).1 0 h11.1 h11.2 0 rfl, trivial⟩ ?_
    obtain ⟨t12, ht13, hl9⟩ := bind_some hl9
    refine WL.call (some 16) 89 #[(iv (rdD p0 x3 0))] (fun fb => by kernel_rfl) (tile_colour_1_calls (rdD p0 x3 0) t12 _ ht13) (fun v w14 hR15 => ?_)
    obtain ⟨rfl, hk_⟩ := hR15
    have hS16 := hS8.keepN hk_
    refine ⟨trivial, ?_⟩
    refine WL.done rfl (WX.next ?_)
    rcases br_some hl9 with ⟨h17, hl9⟩ | ⟨h17, hl9⟩
    ·refine WC.condT2 (fun fb => by kernel_rfl) h17 ?_
     refine WC.seq (WC.region ?_)
     refine sg 2 [] [4] [(4, (iv x3))] (by kernel_rfl) ?_
     refine WL.done rfl (WX.next ?_)
     refine WC.ret ?_
     injection hl9 with hl9
     subst hl9
     injection hf with hf
     subst hf
     exact WX.blockR (WX.thenR (WX.thenR (WX.blockR (WX.thenR (WX.ret_ [] (iv x3) [] (fun fb => by kernel_rfl) trivial ⟨_, rfl, rfl, hS16.keep⟩)))))
    refine WC.condF2 (fun fb => by kernel_rfl) h17 ?_
    refine WC.skip ?_
    refine WX.blockN (WX.next ?_)
    refine WC.region ?_
    refine sg 2 [] [0, 1, 7, 8] [e2, (1, (.func (.func 89) #[] #[])), e1, (8, (iv (w64 (x3 + 1))))] (by kernel_rfl) ?_
    refine WL.done rfl ?_
    exact WX.again k6 (Nat.lt_succ_self _) (w64 (x3 + 1)) [0, 1, 7, 8] rfl ⟨(hS16.subR [0]).sub [] (by decide), hl9⟩
   refine WC.condF2 (fun fb => by kernel_rfl) h10 ?_
   refine WC.exit ?_
   injection hl9 with hl9
   exact WX.thenX (WX.thenX (WX.blockHere (WX.to Kx4 () [] rfl ⟨(hS8.subR [0]).sub [] (by decide), hl9.symm⟩)))
 rintro y21 w18 ⟨hS19, hq20⟩
 subst hq20
 have hf := sum_inr hf
 refine WX.next (WC.seq (WC.region ?_))
 refine sg 1 [] [4] [(4, (iv (-1)))] (by kernel_rfl) ?_
 refine WL.done rfl (WX.next ?_)
 refine WC.ret ?_
 injection hf with hf
 subst hf
 exact WX.ret_ [] (iv (-1)) [] (fun fb => by kernel_rfl) trivial ⟨_, rfl, rfl, hS19.keep⟩
theorem slices_ContainsFunc_int_int_with_tile_colour_1_calls (k : Nat) (p0 : List Int) (Aa : Option Addr) (ca : Nat) (r : Bool) (w : World) (hR0 : RO NoS w (rowR encInt Aa ca p0)) (hf : slices_ContainsFunc_int_int_with_tile_colour_1 k p0 = some r) :
  CallsR Tryz.prog 78 #[(sv Aa p0 ca), (.func (.func 89) #[] #[])] w (fun v w' => v = (bv r) ∧ Keeps NoS w w') := by
 have hS : St NoS w w [rowR encInt Aa ca p0] [] := St.init (ro_cons hR0 (ro_nil _ _))
 refine enter 9 Tryz.func78 rfl Tryz.ntmps78 rfl ?_
 unfold slices_ContainsFunc_int_int_with_tile_colour_1 at hf
 refine WC.seq (WC.region ?_)
 refine sg 1 [] [0, 1] [(0, (sv Aa p0 ca)), (1, (.func (.func 89) #[] #[]))] (by kernel_rfl) ?_
 refine WL.done rfl (WX.next (WC.seq (WC.region ?_)))
 refine sg 2 [] [5, 6] [(5, (sv Aa p0 ca)), (6, (.func (.func 89) #[] #[]))] (by kernel_rfl) ?_
 obtain ⟨t2, ht3, hf⟩ := bind_some hf
 refine WL.call (some 7) 91 #[(sv Aa p0 ca), (.func (.func 89) #[] #[])] (fun fb => by kernel_rfl) (slices_IndexFunc_int_int_with_tile_colour_1_calls _ p0 Aa ca t2 _ (hS.rd 0) ht3) (fun v w4 hR5 => ?_)
 obtain ⟨rfl, hk_⟩ := hR5
 have hS6 := hS.keepN hk_
 refine ⟨trivial, ?_⟩
 refine sg 5 [] [4] [(4, (bv (decide (t2 ≥ 0))))] (by kernel_rfl) ?_
 refine WL.done rfl (WX.next ?_)
 refine WC.ret ?_
 injection hf with hf
 subst hf
 exact WX.ret_ [] (bv (decide (t2 ≥ 0))) [] (fun fb => by kernel_rfl) trivial ⟨_, rfl, rfl, hS6.keep⟩
theorem tile_colour_calls (k : Nat) (p0 : List Int) (Aa : Option Addr) (ca : Nat) (r : Bool) (w : World) (hR0 : RO NoS w (rowR encInt Aa ca p0)) (hf : tile_colour k p0 = some r) :
  CallsR Tryz.prog 69 #[(sv Aa p0 ca)] w (fun v w' => v = (bv r) ∧ Keeps NoS w w') := by
 have hS : St NoS w w [rowR encInt Aa ca p0] [] := St.init (ro_cons hR0 (ro_nil _ _))
 refine enter 6 Tryz.func69 rfl Tryz.ntmps69 rfl ?_
 unfold tile_colour at hf
 refine WC.seq (WC.region ?_)
 refine sg 1 [] [0] [(0, (sv Aa p0 ca))] (by kernel_rfl) ?_
 refine WL.done rfl (WX.next (WC.seq (WC.region ?_)))
 refine sg 1 [] [3] [(3, (sv Aa p0 ca))] (by kernel_rfl) ?_
 obtain ⟨t2, ht3, hf⟩ := bind_some hf
 refine WL.call (some 4) 78 #[(sv Aa p0 ca), (.func (.func 89) #[] #[])] (fun fb => by kernel_rfl) (slices_ContainsFunc_int_int_with_tile_colour_1_calls _ p0 Aa ca t2 _ (hS.rd 0) ht3) (fun v w4 hR5 => ?_)
 obtain ⟨rfl, hk_⟩ := hR5
 have hS6 := hS.keepN hk_
 refine ⟨trivial, ?_⟩
 refine sg 4 [] [2] [(2, (bv (!t2)))] (by kernel_rfl) ?_
 refine WL.done rfl (WX.next ?_)
 refine WC.ret ?_
 injection hf with hf
 subst hf
 exact WX.ret_ [] (bv (!t2)) [] (fun fb => by kernel_rfl) trivial ⟨_, rfl, rfl, hS6.keep⟩
theorem tile_Valid_key44 : KeyK Tryz.prog 44 (aggI ints_Tile) := KeyK.struct (n := 4) (by kernel_rfl) ints_Tile (fun _ => rfl) (fun x y h => by cases x; cases y; simp only [ints_Tile, List.cons.injEq, and_true] at h; obtain ⟨rfl, rfl, rfl, rfl⟩ := h; rfl)
theorem tile_Valid_calls (k : Nat) (p0 : List Tile) (Aa : Option Addr) (ca : Nat) (r : Bool) (w : World) (hR0 : RO NoS w (rowR enc_Tile Aa ca p0)) (hf : tile_Valid k p0 = some r) :
  CallsR Tryz.prog 37 #[(sv Aa p0 ca)] w (fun v w' => v = (bv r) ∧ Keeps NoS w w') := by
 have hS : St NoS w w [rowR enc_Tile Aa ca p0] [] := St.init (ro_cons hR0 (ro_nil _ _))
 refine enter 35 Tryz.func37 rfl Tryz.ntmps37 rfl ?_
 unfold tile_Valid at hf
 refine WC.seq (WC.region ?_)
 refine sg 1 [] [0] [(0, (sv Aa p0 ca))] (by kernel_rfl) ?_
 refine WL.done rfl (WX.next (WC.seq (WC.seq (WC.region ?_))))
 refine sg 3 [] [0, 8] [(0, (sv Aa p0 ca)), (8, (bv (decide ((p0.length : Int) > 1000))))] (by kernel_rfl) ?_
 refine WL.done rfl (WX.next ?_)
 rcases br_some hf with ⟨h3, hf⟩ | ⟨h3, hf⟩
 ·refine WC.condT2 (fun fb => by kernel_rfl) h3 ?_
  refine WC.seq (WC.region ?_)
  refine sg 1 [] [2] [(2, (bv false))] (by kernel_rfl) ?_
  refine WL.done rfl (WX.next ?_)
  refine WC.ret ?_
  injection hf with hf
  subst hf
  exact WX.thenR (WX.ret_ [] (bv false) [] (fun fb => by kernel_rfl) trivial ⟨_, rfl, rfl, hS.keep⟩)
 refine WC.condF2 (fun fb => by kernel_rfl) h3 ?_
 refine WC.skip (WX.next (WC.seq (WC.region ?_)))
 refine WL.new hS 9 [] (fun g => (.map (some g))) (mapObj (aggI ints_Tile) vB ([] : List (Tile × Bool))) [] (fun fb g => by kernel_rfl) trivial (fun g4 w5 hS6 => ?_)
 refine ⟨trivial, ?_⟩
 refine sg 2 [] [0, 3] [(0, (sv Aa p0 ca)), (3, (.map (some g4)))] (by kernel_rfl) ?_
 refine WL.done rfl (WX.next (WC.seq (WC.seq (WC.region ?_))))
 refine sg 3 [] [3, 10, 11, 12] [(3, (.map (some g4))), (10, (sv Aa p0 ca)), (11, (iv (p0.length : Int))), (12, (iv 0))] (by kernel_rfl) ?_
 refine WL.done rfl (WX.next ?_)
 obtain ⟨x9, hx10, hf⟩ := bind_some hf
 let e3 : Nat × Value := (11, (iv (p0.length : Int)))
 let e4 : Nat × Value := (10, (sv Aa p0 ca))
 let e11 : List Nat := [3, 5, 10, 11, 12, 31]
 let e12 := aggI ints_Tile
 refine WC.cutN (T := Unit) (fun t => []) (fun t w1 => St NoS w w1 [rowR enc_Tile Aa ca p0] [] ∧ x9 = .inr t) (fun Kx9 => ?_) ?_
 ·
  refine WC.block ?_
  refine WC.loop (T := (List (Tile × Bool)) × Int) (fun t => [(3, (.map (some g4))), e4, e3, (12, (iv t.2))]) (fun n t w1 => St NoS w w1 [rowR enc_Tile Aa ca p0] [blk g4 (mapObj e12 vB t.1)] ∧ tile_Valid.l0 n t.1 t.2 p0 = some x9) k (([] : List (Tile × Bool)), 0) [3, 10, 11, 12] rfl ⟨(hS6.subR [0]).sub [0] (by decide), hx10⟩ ?_
  rintro k11 ⟨l7, x8⟩ w12 ⟨hS13, hl14⟩
  let e1 := rdD p0 x8 z_Tile
  let e2 : Array Value := #[(iv (e1.N)), (iv (e1.E)), (iv (e1.S)), (iv (e1.W))]
  let e5 := (adr Aa).add ((x8).toNat * 4)
  let e6 : Nat × Value := (12, (iv x8))
  let e7 := iv (e1.N)
  let e8 := iv (e1.E)
  let e9 := iv (e1.S)
  let e10 := iv (e1.W)
  cases k11 with
  | zero => rw [tile_Valid.l0] at hl14; cases hl14
  | succ k11 =>
   rw [tile_Valid.l0] at hl14
   refine WC.seq (WC.region ?_)
   refine sg 1 [] [3, 10, 11, 12, 13] [(3, (.map (some g4))), e4, e3, e6, (13, (bv (decide (x8 < (p0.length : Int)))))] (by kernel_rfl) ?_
   refine WL.done rfl (WX.next (WC.seq ?_))
   rcases br_some hl14 with ⟨h15, hl14⟩ | ⟨h15, hl14⟩
   ·refine WC.condT2 (fun fb => by kernel_rfl) h15 ?_
    refine WC.skip (WX.next (WC.seq (WC.block (WC.seq (WC.region ?_)))))
    obtain ⟨h16, hl14⟩ := as_some hl14
    refine seg 2 [.v e7, .v e8, .v e9, .v e10] [3, 10, 11, 12, 15] [(3, (.map (some g4))), e4, e3, e6, (15, (.agg e2))] [.idx Aa x8 p0.length, .cell e5 e7, .cell (e5.add 1) e8, .cell (e5.add 2) e9, .cell (e5.add 3) e10] (fun fb => by kernel_rfl) rfl ⟨rowR.adr (hS13.rd 0).1 h16.1 h16.2, rowR.cell (hS13.rd 0).1 z_Tile h16.1 h16.2 0 rfl, rowR.cell (hS13.rd 0).1 z_Tile h16.1 h16.2 1 rfl, rowR.cell (hS13.rd 0).1 z_Tile h16.1 h16.2 2 rfl, rowR.cell (hS13.rd 0).1 z_Tile h16.1 h16.2 3 rfl, trivial⟩ ?_
    refine WL.new hS13 5 [] (fun g => (pt g)) (.cells #[(iv 0), (iv 0), (iv 0), (iv 0)] 44 (0, 0)) [] (fun fb g => by kernel_rfl) trivial (fun g17 w18 hS19 => ?_)
    refine ⟨trivial, ?_⟩
    refine WL.store hS19 0 rfl [(0, e7), (1, e8), (2, e9), (3, e10)] e2 (fun fb => by kernel_rfl) (by kernel_rfl) rfl [1] (by decide) (by decide) (fun w20 hS21 => ?_)
    refine ⟨trivial, ?_⟩
    refine WL.done rfl (WX.next (WC.seq (WC.seq (WC.region ?_))))
    refine seg 2 [.v e7, .v e8, .v e9, .v e10] [3, 5, 10, 11, 12, 16, 17] [(3, (.map (some g4))), (5, (pt g17)), e4, e3, e6, (16, (.map (some g4))), (17, (.agg e2))] [.cell ⟨g17, 0, none⟩ e7, .cell ⟨g17, 1, none⟩ e8, .cell ⟨g17, 2, none⟩ e9, .cell ⟨g17, 3, none⟩ e10] (fun fb => by kernel_rfl) rfl ⟨hS21.cell 0 rfl 0 rfl, hS21.cell 0 rfl 1 rfl, hS21.cell 0 rfl 2 rfl, hS21.cell 0 rfl 3 rfl, trivial⟩ ?_
    refine WL.lookup (hS21.own 1).1 e1 (d := 18) (c := false) (t := 96) (kT := 44) (eT := 4) (z := false) (kE := e12) (vE := vB) (l := l7) (bv (mget e1 false l7)) (fun fb => by kernel_rfl) tile_Valid_key44 (by kernel_rfl) (fun _ => by kernel_rfl) rfl ?_
    refine ⟨trivial, ?_⟩
    refine sg 4 [] [3, 5, 10, 11, 12, 19] [(3, (.map (some g4))), (5, (pt g17)), e4, e3, e6, (19, (bv (mget e1 false l7)))] (by kernel_rfl) ?_
    obtain ⟨x22, hx23, hl14⟩ := bind_some hl14
    refine WL.cutW (T := Bool) 16 (fun t => [(3, (.map (some g4))), (5, (pt g17)), e4, e3, e6, (31, (bv t))]) (fun t w1 => (St NoS w w1 [rowR enc_Tile Aa ca p0] [blk g4 (mapObj e12 vB l7), blk g17 (.cells e2 44 (0, 0))] ∧ x22 = t) ∧ CellsOK [] w1) (fun K => ?_) ?_
    ·
     rcases br_some hx23 with ⟨h24, hx23⟩ | ⟨h24, hx23⟩
     ·
      refine WL.setB 19 h24 rfl ?_
      refine sg 16 [] e11 [(3, (.map (some g4))), (5, (pt g17)), e4, e3, e6, (31, (bv true))] (by kernel_rfl) ?_
      injection hx23 with hx23
      exact WL.to K true e11 rfl ⟨⟨(hS21.subR [0]).sub [1, 0] (by decide), hx23.symm⟩, trivial⟩
     refine WL.setB 19 h24 rfl ?_
     refine seg 12 [.v e7, .v e8, .v e9, .v e10] [3, 5, 10, 11, 12, 19, 21, 23, 25, 27] [(3, (.map (some g4))), (5, (pt g17)), e4, e3, e6, (19, (bv false)), (21, e7), (23, e8), (25, e9), (27, e10)] [.cell ⟨g17, 0, none⟩ e7, .cell ⟨g17, 1, none⟩ e8, .cell ⟨g17, 2, none⟩ e9, .cell ⟨g17, 3, none⟩ e10] (fun fb => by kernel_rfl) rfl ⟨hS21.cell 0 rfl 0 rfl, hS21.cell 0 rfl 1 rfl, hS21.cell 0 rfl 2 rfl, hS21.cell 0 rfl 3 rfl, trivial⟩ ?_
     refine WL.new hS21 28 [] (fun g => (.slice (some ⟨g, 0, none⟩) 4 4)) (.cells e2 3 (0, 0)) [] (fun fb g => by kernel_rfl) trivial (fun g25 w26 hS27 => ?_)
     refine ⟨trivial, ?_⟩
     have hS28 := hS.go w26 [rowO 3 encInt (some ⟨g25, 0, none⟩) 4 [e1.N, e1.E, e1.S, e1.W], blk g17 (.cells e2 44 (0, 0)), blk g4 (mapObj e12 vB l7)] (hS27.map1 0 _ (fun h => rowO.ofBlk h rfl (Nat.le_of_ble_eq_true (by kernel_rfl))) (fun _ h => by obtain ⟨_, h1, h2⟩ := h; injection h1 with h1; subst h1; exact h2) [1, 2] (by decide) (by decide))
     obtain ⟨t29, ht30, hx23⟩ := bind_some hx23
     refine WL.call (some 29) 69 #[(sv (some ⟨g25, 0, none⟩) [e1.N, e1.E, e1.S, e1.W] 4)] (fun fb => by kernel_rfl) (tile_colour_calls _ [e1.N, e1.E, e1.S, e1.W] (some ⟨g25, 0, none⟩) 4 t29 _ (hS28.ow 0).ofO ht30) (fun v w31 hR32 => ?_)
     obtain ⟨rfl, hk_⟩ := hR32
     have hS33 := hS28.keepN hk_
     refine ⟨trivial, ?_⟩
     refine sg 16 [] e11 [(3, (.map (some g4))), (5, (pt g17)), e4, e3, e6, (31, (bv (!t29)))] (by kernel_rfl) ?_
     injection hx23 with hx23
     exact WL.to K (!t29) e11 rfl ⟨⟨(hS33.subR [0]).sub [2, 1] (by decide), hx23.symm⟩, trivial⟩
    rintro y34 w36 ⟨⟨hS38, hq35⟩, hF39⟩
    subst hq35
    refine WL.done rfl (WX.next ?_)
    rcases br_some hl14 with ⟨h40, hl14⟩ | ⟨h40, hl14⟩
    ·refine WC.condT2 (fun fb => by kernel_rfl) h40 ?_
     refine WC.seq (WC.region ?_)
     refine sg 1 [] [2] [(2, (bv false))] (by kernel_rfl) ?_
     refine WL.done rfl (WX.next ?_)
     refine WC.ret ?_
     injection hl14 with hl14
     subst hl14
     injection hf with hf
     subst hf
     exact WX.thenR (WX.blockR (WX.thenR (WX.thenR (WX.blockR (WX.thenR (WX.ret_ [] (bv false) [] (fun fb => by kernel_rfl) trivial ⟨_, rfl, rfl, hS38.keep⟩))))))
    refine WC.condF2 (fun fb => by kernel_rfl) h40 ?_
    refine WC.skip (WX.next (WC.region ?_))
    refine seg 2 [.v e7, .v e8, .v e9, .v e10] [3, 10, 11, 12, 32, 33] [(3, (.map (some g4))), e4, e3, e6, (32, (.map (some g4))), (33, (.agg e2))] [.cell ⟨g17, 0, none⟩ e7, .cell ⟨g17, 1, none⟩ e8, .cell ⟨g17, 2, none⟩ e9, .cell ⟨g17, 3, none⟩ e10] (fun fb => by kernel_rfl) rfl ⟨hS38.cell 1 rfl 0 rfl, hS38.cell 1 rfl 1 rfl, hS38.cell 1 rfl 2 rfl, hS38.cell 1 rfl 3 rfl, trivial⟩ ?_
    refine WL.mapput hS38 0 (t := 96) (kT := 44) (eT := 4) (kE := e12) (vE := vB) (l := l7) rfl e1 true (fun fb => by kernel_rfl) tile_Valid_key44 (by kernel_rfl) [1] (by decide) (by decide) (fun w41 hS42 => ?_)
    refine ⟨trivial, ?_⟩
    refine WL.done rfl ?_
    refine WX.blockN (WX.next ?_)
    refine WC.region ?_
    refine sg 2 [] [3, 10, 11, 12] [(3, (.map (some g4))), e4, e3, (12, (iv (w64 (x8 + 1))))] (by kernel_rfl) ?_
    refine WL.done rfl ?_
    exact WX.again k11 (Nat.lt_succ_self _) (mput e1 true l7, w64 (x8 + 1)) [3, 10, 11, 12] rfl ⟨(hS42.subR [0]).sub [0] (by decide), hl14⟩
   refine WC.condF2 (fun fb => by kernel_rfl) h15 ?_
   refine WC.exit ?_
   injection hl14 with hl14
   exact WX.thenX (WX.thenX (WX.blockHere (WX.to Kx9 () [] rfl ⟨(hS13.subR [0]).sub [] (by decide), hl14.symm⟩)))
 rintro y47 w43 ⟨hS45, hq46⟩
 subst hq46
 have hf := sum_inr hf
 refine WX.next (WC.seq (WC.region ?_))
 refine sg 1 [] [2] [(2, (bv true))] (by kernel_rfl) ?_
 refine WL.done rfl (WX.next ?_)
 refine WC.ret ?_
 injection hf with hf
 subst hf
 exact WX.ret_ [] (bv true) [] (fun fb => by kernel_rfl) trivial ⟨_, rfl, rfl, hS45.keep⟩
theorem tile_write_calls (k : Nat) (p0 : List Tile) (Aa : Option Addr) (ca : Nat) (mG : Glo) (r : ByteArray) (w : World) (hR0 : RO NoS w (rowR enc_Tile Aa ca p0)) (hR1 : RO NoS w (gloO Tryz.prog 5 8 3 4 mG)) (hf : tile_write k p0 = some r) :
  CallsR Tryz.prog 62 #[(sv Aa p0 ca)] w (fun v w' => v = (.string r) ∧ Keeps NoS w w') := by
 have hS : St NoS w w [rowR enc_Tile Aa ca p0, gloO Tryz.prog 5 8 3 4 mG] [] := St.init (ro_cons hR0 (ro_cons hR1 (ro_nil _ _)))
 refine enter 41 Tryz.func62 rfl Tryz.ntmps62 rfl ?_
 unfold tile_write at hf
 refine WC.seq (WC.region ?_)
 refine sg 1 [] [0] [(0, (sv Aa p0 ca))] (by kernel_rfl) ?_
 refine WL.done rfl (WX.next (WC.seq (WC.region ?_)))
 refine sg 1 [] [0, 3] [(0, (sv Aa p0 ca)), (3, (.slice none 0 0))] (by kernel_rfl) ?_
 refine WL.done rfl (WX.next (WC.seq (WC.seq (WC.region ?_))))
 refine sg 3 [] [3, 9, 10, 11] [(3, (.slice none 0 0)), (9, (sv Aa p0 ca)), (10, (iv (p0.length : Int))), (11, (iv 0))] (by kernel_rfl) ?_
 refine WL.done rfl (WX.next ?_)
 have hS3 := hS.nilrow 9 encStr
 obtain ⟨x10, hx11, hf⟩ := bind_some hf
 let e2 : Nat × Value := (10, (iv (p0.length : Int)))
 let e4 : Nat × Value := (9, (sv Aa p0 ca))
 let e6 : List Nat := [3, 6, 9, 10, 11, 23, 24]
 let e9 : List Own := [rowR enc_Tile Aa ca p0, gloO Tryz.prog 5 8 3 4 mG]
 let e12 : List Nat := [3, 9, 10, 11, 23, 24, 27, 28]
 let e13 : List Nat := [3, 6, 9, 10, 11, 23, 24, 26]
 let e14 : List Nat := [3, 6, 8, 9, 10, 11, 23, 24]
 refine WC.cutN (T := (List ByteArray) × (Option Addr) × Nat) (fun t => [(3, (sv t.2.1 t.1 t.2.2))]) (fun t w1 => St NoS w w1 e9 [rowO 9 encStr t.2.1 t.2.2 t.1] ∧ x10 = t.1) (fun Kx10 => ?_) ?_
 ·
  refine WC.block ?_
  refine WC.loop (T := ((List ByteArray) × Int) × (Option Addr) × Nat) (fun t => [(3, (sv t.2.1 t.1.1 t.2.2)), e4, e2, (11, (iv t.1.2))]) (fun n t w1 => St NoS w w1 e9 [rowO 9 encStr t.2.1 t.2.2 t.1.1] ∧ tile_write.l0 n t.1.1 t.1.2 p0 = some x10) k ((([] : List ByteArray), 0), none, 0) [3, 9, 10, 11] rfl ⟨(hS3.subR [0, 1]).sub [0] (by decide), hx11⟩ ?_
  rintro k12 ⟨⟨l6, x7⟩, A4, c5⟩ w13 ⟨hS14, hl15⟩
  let e1 : Array Value := #[(iv ((rdD p0 x7 z_Tile).N)), (iv ((rdD p0 x7 z_Tile).E)), (iv ((rdD p0 x7 z_Tile).S)), (iv ((rdD p0 x7 z_Tile).W))]
  let e3 := rdD p0 x7 z_Tile
  let e5 : Nat × Value := (3, (sv A4 l6 c5))
  let e7 : Nat × Value := (11, (iv x7))
  let e11 := (adr Aa).add ((x7).toNat * 4)
  let e16 := iv (e3.N)
  let e17 := iv (e3.E)
  let e18 := iv (e3.S)
  let e19 := iv (e3.W)
  cases k12 with
  | zero => rw [tile_write.l0] at hl15; cases hl15
  | succ k12 =>
   rw [tile_write.l0] at hl15
   refine WC.seq (WC.region ?_)
   refine sg 1 [] [3, 9, 10, 11, 12] [e5, e4, e2, e7, (12, (bv (decide (x7 < (p0.length : Int)))))] (by kernel_rfl) ?_
   refine WL.done rfl (WX.next (WC.seq ?_))
   rcases br_some hl15 with ⟨h16, hl15⟩ | ⟨h16, hl15⟩
   ·refine WC.condT2 (fun fb => by kernel_rfl) h16 ?_
    refine WC.skip (WX.next (WC.seq (WC.block (WC.seq (WC.region ?_)))))
    obtain ⟨h17, hl15⟩ := as_some hl15
    refine seg 2 [.v e16, .v e17, .v e18, .v e19] [3, 9, 10, 11, 14] [e5, e4, e2, e7, (14, (.agg e1))] [.idx Aa x7 p0.length, .cell e11 e16, .cell (e11.add 1) e17, .cell (e11.add 2) e18, .cell (e11.add 3) e19] (fun fb => by kernel_rfl) rfl ⟨rowR.adr (hS14.rd 0).1 h17.1 h17.2, rowR.cell (hS14.rd 0).1 z_Tile h17.1 h17.2 0 rfl, rowR.cell (hS14.rd 0).1 z_Tile h17.1 h17.2 1 rfl, rowR.cell (hS14.rd 0).1 z_Tile h17.1 h17.2 2 rfl, rowR.cell (hS14.rd 0).1 z_Tile h17.1 h17.2 3 rfl, trivial⟩ ?_
    refine WL.new hS14 5 [] (fun g => (pt g)) (.cells #[(iv 0), (iv 0), (iv 0), (iv 0)] 44 (0, 0)) [] (fun fb g => by kernel_rfl) trivial (fun g18 w19 hS20 => ?_)
    refine ⟨trivial, ?_⟩
    refine WL.store hS20 0 rfl [(0, e16), (1, e17), (2, e18), (3, e19)] e1 (fun fb => by kernel_rfl) (by kernel_rfl) rfl [1] (by decide) (by decide) (fun w21 hS22 => ?_)
    refine ⟨trivial, ?_⟩
    refine WL.done rfl (WX.next (WC.seq (WC.region ?_)))
    refine sg 1 [] [3, 5, 6, 9, 10, 11] [e5, (5, (pt g18)), (6, (.slice none 0 0)), e4, e2, e7] (by kernel_rfl) ?_
    refine WL.done rfl (WX.next (WC.seq (WC.seq (WC.region ?_))))
    refine seg 10 [.v e16, .v e17, .v e18, .v e19] e6 [e5, (6, (.slice none 0 0)), e4, e2, e7, (23, (.agg e1)), (24, (iv 0))] [.cell ⟨g18, 0, none⟩ e16, .cell ⟨g18, 1, none⟩ e17, .cell ⟨g18, 2, none⟩ e18, .cell ⟨g18, 3, none⟩ e19] (fun fb => by kernel_rfl) rfl ⟨hS22.cell 0 rfl 0 rfl, hS22.cell 0 rfl 1 rfl, hS22.cell 0 rfl 2 rfl, hS22.cell 0 rfl 3 rfl, trivial⟩ ?_
    refine WL.done rfl (WX.next ?_)
    have hS23 := hS22.nilrow 9 encStr
    obtain ⟨x30, hx31, hl15⟩ := bind_some hl15
    refine WC.cutN (T := (List ByteArray) × (Option Addr) × Nat) (fun t => [e5, (6, (sv t.2.1 t.1 t.2.2)), e4, e2, e7]) (fun t w1 => St NoS w w1 e9 [rowO 9 encStr A4 c5 l6, rowO 9 encStr t.2.1 t.2.2 t.1] ∧ x30 = t.1) (fun Kx30 => ?_) ?_
    ·
     refine WC.block ?_
     refine WC.loop (T := ((List ByteArray) × Int) × (Option Addr) × Nat) (fun t => [e5, (6, (sv t.2.1 t.1.1 t.2.2)), e4, e2, e7, (23, (.agg e1)), (24, (iv t.1.2))]) (fun n t w1 => St NoS w w1 e9 [rowO 9 encStr A4 c5 l6, rowO 9 encStr t.2.1 t.2.2 t.1.1] ∧ tile_write.l1 n t.1.1 t.1.2 p0 x7 = some x30) k12 ((([] : List ByteArray), 0), none, 0) e6 rfl ⟨(hS23.subR [0, 1]).sub [2, 0] (by decide), hx31⟩ ?_
     rintro k32 ⟨⟨l26, x27⟩, A24, c25⟩ w33 ⟨hS34, hl35⟩
     let e8 := sv A24 l26 c25
     let e10 : Nat × Value := (24, (iv x27))
     let e15 : Nat × Value := (24, (iv (w64 (x27 + 1))))
     cases k32 with
     | zero => rw [tile_write.l1] at hl35; cases hl35
     | succ k32 =>
      rw [tile_write.l1] at hl35
      refine WC.seq (WC.region ?_)
      refine sg 1 [] [3, 6, 9, 10, 11, 23, 24, 25] [e5, (6, e8), e4, e2, e7, (23, (.agg e1)), e10, (25, (bv (decide (x27 < 4))))] (by kernel_rfl) ?_
      refine WL.done rfl (WX.next (WC.seq ?_))
      rcases br_some hl35 with ⟨h36, hl35⟩ | ⟨h36, hl35⟩
      ·refine WC.condT2 (fun fb => by kernel_rfl) h36 ?_
       refine WC.skip (WX.next (WC.seq (WC.block (WC.seq (WC.region ?_)))))
       rcases br_some hl35 with ⟨h37, hl35⟩ | ⟨h37, hl35⟩
       ·
        refine WL.setI 24 (eq_of_beq h37) rfl ?_
        refine sg 1 [] e13 [e5, (6, e8), e4, e2, e7, (23, (.agg e1)), (24, (iv 0)), (26, e16)] (by kernel_rfl) ?_
        refine WL.setI 24 (eq_of_beq h37).symm rfl ?_
        refine sg 2 [] e14 [e5, (6, e8), (8, e16), e4, e2, e7, (23, (.agg e1)), e10] (by kernel_rfl) ?_
        refine WL.done rfl (WX.next (WC.region ?_))
        refine sg 2 [] e12 [e5, e4, e2, e7, (23, (.agg e1)), e10, (27, e8), (28, e16)] (by kernel_rfl) ?_
        obtain ⟨t41, ht42, hl35⟩ := bind_some hl35
        refine WL.call (some 29) 83 #[e16] (fun fb => by kernel_rfl) (itoaN_calls Tryz.strconv_Itoa (e3.N) t41 _ (hS34.rd 1) ht42) (fun v w39 hR38 => ?_)
        obtain ⟨rfl, hk_⟩ := hR38
        have hS40 := hS34.keepN hk_
        refine ⟨trivial, ?_⟩
        refine WL.new hS40 30 [] (fun g => (.slice (some ⟨g, 0, none⟩) 1 1)) (.cells #[(.string t41)] 9 (0, 0)) [] (fun fb g => by kernel_rfl) trivial (fun g43 w44 hS45 => ?_)
        refine ⟨trivial, ?_⟩
        have hS46 := hS.go w44 [rowO 9 encStr (some ⟨g43, 0, none⟩) 1 [t41], rowO 9 encStr A4 c5 l6, rowO 9 encStr A24 c25 l26] (hS45.map1 0 _ (fun h => rowO.ofBlk h rfl (Nat.le_of_ble_eq_true (by kernel_rfl))) (fun _ h => by obtain ⟨_, h1, h2⟩ := h; injection h1 with h1; subst h1; exact h2) [1, 2] (by decide) (by decide))
        obtain ⟨h47, hl35⟩ := as_some hl35
        refine WL.append hS46 2 (d := 31) (tS := 79) (z := (.string ByteArray.empty)) (bytes := 16) (c2 := 1) rfl (fun fb => by kernel_rfl) (rowO.rd (hS46.own 0).1) (by kernel_rfl) (by kernel_rfl) rfl (by decide) h47 (by decide) [0, 1] (by decide) (by decide) (fun A48 c49 w50 hS51 => ?_)
        refine ⟨trivial, ?_⟩
        refine sg 6 [] e6 [e5, (6, (sv A48 (l26 ++ [t41]) c49)), e4, e2, e7, (23, (.agg e1)), e10] (by kernel_rfl) ?_
        refine WL.done rfl ?_
        refine WX.blockN (WX.next ?_)
        refine WC.region ?_
        refine sg 2 [] e6 [e5, (6, (sv A48 (l26 ++ [t41]) c49)), e4, e2, e7, (23, (.agg e1)), e15] (by kernel_rfl) ?_
        refine WL.done rfl ?_
        exact WX.again k32 (Nat.lt_succ_self _) ((l26 ++ [t41], w64 (x27 + 1)), A48, c49) e6 rfl ⟨(hS51.subR [0, 1]).sub [2, 0] (by decide), hl35⟩
       rcases br_some hl35 with ⟨h52, hl35⟩ | ⟨h52, hl35⟩
       ·
        refine WL.setI 24 (eq_of_beq h52) rfl ?_
        refine sg 1 [] e13 [e5, (6, e8), e4, e2, e7, (23, (.agg e1)), (24, (iv 1)), (26, e17)] (by kernel_rfl) ?_
        refine WL.setI 24 (eq_of_beq h52).symm rfl ?_
        refine sg 2 [] e14 [e5, (6, e8), (8, e17), e4, e2, e7, (23, (.agg e1)), e10] (by kernel_rfl) ?_
        refine WL.done rfl (WX.next (WC.region ?_))
        refine sg 2 [] e12 [e5, e4, e2, e7, (23, (.agg e1)), e10, (27, e8), (28, e17)] (by kernel_rfl) ?_
        obtain ⟨t56, ht57, hl35⟩ := bind_some hl35
        refine WL.call (some 29) 83 #[e17] (fun fb => by kernel_rfl) (itoaN_calls Tryz.strconv_Itoa (e3.E) t56 _ (hS34.rd 1) ht57) (fun v w54 hR53 => ?_)
        obtain ⟨rfl, hk_⟩ := hR53
        have hS55 := hS34.keepN hk_
        refine ⟨trivial, ?_⟩
        refine WL.new hS55 30 [] (fun g => (.slice (some ⟨g, 0, none⟩) 1 1)) (.cells #[(.string t56)] 9 (0, 0)) [] (fun fb g => by kernel_rfl) trivial (fun g58 w59 hS60 => ?_)
        refine ⟨trivial, ?_⟩
        have hS61 := hS.go w59 [rowO 9 encStr (some ⟨g58, 0, none⟩) 1 [t56], rowO 9 encStr A4 c5 l6, rowO 9 encStr A24 c25 l26] (hS60.map1 0 _ (fun h => rowO.ofBlk h rfl (Nat.le_of_ble_eq_true (by kernel_rfl))) (fun _ h => by obtain ⟨_, h1, h2⟩ := h; injection h1 with h1; subst h1; exact h2) [1, 2] (by decide) (by decide))
        obtain ⟨h63, hl35⟩ := as_some hl35
        refine WL.append hS61 2 (d := 31) (tS := 79) (z := (.string ByteArray.empty)) (bytes := 16) (c2 := 1) rfl (fun fb => by kernel_rfl) (rowO.rd (hS61.own 0).1) (by kernel_rfl) (by kernel_rfl) rfl (by decide) h63 (by decide) [0, 1] (by decide) (by decide) (fun A65 c66 w67 hS68 => ?_)
        refine ⟨trivial, ?_⟩
        refine sg 6 [] e6 [e5, (6, (sv A65 (l26 ++ [t56]) c66)), e4, e2, e7, (23, (.agg e1)), e10] (by kernel_rfl) ?_
        refine WL.done rfl ?_
        refine WX.blockN (WX.next ?_)
        refine WC.region ?_
        refine sg 2 [] e6 [e5, (6, (sv A65 (l26 ++ [t56]) c66)), e4, e2, e7, (23, (.agg e1)), e15] (by kernel_rfl) ?_
        refine WL.done rfl ?_
        exact WX.again k32 (Nat.lt_succ_self _) ((l26 ++ [t56], w64 (x27 + 1)), A65, c66) e6 rfl ⟨(hS68.subR [0, 1]).sub [2, 0] (by decide), hl35⟩
       rcases br_some hl35 with ⟨h69, hl35⟩ | ⟨h69, hl35⟩
       ·
        refine WL.setI 24 (eq_of_beq h69) rfl ?_
        refine sg 1 [] e13 [e5, (6, e8), e4, e2, e7, (23, (.agg e1)), (24, (iv 2)), (26, e18)] (by kernel_rfl) ?_
        refine WL.setI 24 (eq_of_beq h69).symm rfl ?_
        refine sg 2 [] e14 [e5, (6, e8), (8, e18), e4, e2, e7, (23, (.agg e1)), e10] (by kernel_rfl) ?_
        refine WL.done rfl (WX.next (WC.region ?_))
        refine sg 2 [] e12 [e5, e4, e2, e7, (23, (.agg e1)), e10, (27, e8), (28, e18)] (by kernel_rfl) ?_
        obtain ⟨t73, ht74, hl35⟩ := bind_some hl35
        refine WL.call (some 29) 83 #[e18] (fun fb => by kernel_rfl) (itoaN_calls Tryz.strconv_Itoa (e3.S) t73 _ (hS34.rd 1) ht74) (fun v w71 hR70 => ?_)
        obtain ⟨rfl, hk_⟩ := hR70
        have hS72 := hS34.keepN hk_
        refine ⟨trivial, ?_⟩
        refine WL.new hS72 30 [] (fun g => (.slice (some ⟨g, 0, none⟩) 1 1)) (.cells #[(.string t73)] 9 (0, 0)) [] (fun fb g => by kernel_rfl) trivial (fun g75 w76 hS77 => ?_)
        refine ⟨trivial, ?_⟩
        have hS78 := hS.go w76 [rowO 9 encStr (some ⟨g75, 0, none⟩) 1 [t73], rowO 9 encStr A4 c5 l6, rowO 9 encStr A24 c25 l26] (hS77.map1 0 _ (fun h => rowO.ofBlk h rfl (Nat.le_of_ble_eq_true (by kernel_rfl))) (fun _ h => by obtain ⟨_, h1, h2⟩ := h; injection h1 with h1; subst h1; exact h2) [1, 2] (by decide) (by decide))
        obtain ⟨h79, hl35⟩ := as_some hl35
        refine WL.append hS78 2 (d := 31) (tS := 79) (z := (.string ByteArray.empty)) (bytes := 16) (c2 := 1) rfl (fun fb => by kernel_rfl) (rowO.rd (hS78.own 0).1) (by kernel_rfl) (by kernel_rfl) rfl (by decide) h79 (by decide) [0, 1] (by decide) (by decide) (fun A80 c81 w82 hS83 => ?_)
        refine ⟨trivial, ?_⟩
        refine sg 6 [] e6 [e5, (6, (sv A80 (l26 ++ [t73]) c81)), e4, e2, e7, (23, (.agg e1)), e10] (by kernel_rfl) ?_
        refine WL.done rfl ?_
        refine WX.blockN (WX.next ?_)
        refine WC.region ?_
        refine sg 2 [] e6 [e5, (6, (sv A80 (l26 ++ [t73]) c81)), e4, e2, e7, (23, (.agg e1)), e15] (by kernel_rfl) ?_
        refine WL.done rfl ?_
        exact WX.again k32 (Nat.lt_succ_self _) ((l26 ++ [t73], w64 (x27 + 1)), A80, c81) e6 rfl ⟨(hS83.subR [0, 1]).sub [2, 0] (by decide), hl35⟩
       rcases br_some hl35 with ⟨h84, hl35⟩ | ⟨h84, hl35⟩
       ·
        refine WL.setI 24 (eq_of_beq h84) rfl ?_
        refine sg 1 [] e13 [e5, (6, e8), e4, e2, e7, (23, (.agg e1)), (24, (iv 3)), (26, e19)] (by kernel_rfl) ?_
        refine WL.setI 24 (eq_of_beq h84).symm rfl ?_
        refine sg 2 [] e14 [e5, (6, e8), (8, e19), e4, e2, e7, (23, (.agg e1)), e10] (by kernel_rfl) ?_
        refine WL.done rfl (WX.next (WC.region ?_))
        refine sg 2 [] e12 [e5, e4, e2, e7, (23, (.agg e1)), e10, (27, e8), (28, e19)] (by kernel_rfl) ?_
        obtain ⟨t88, ht89, hl35⟩ := bind_some hl35
        refine WL.call (some 29) 83 #[e19] (fun fb => by kernel_rfl) (itoaN_calls Tryz.strconv_Itoa (e3.W) t88 _ (hS34.rd 1) ht89) (fun v w86 hR85 => ?_)
        obtain ⟨rfl, hk_⟩ := hR85
        have hS87 := hS34.keepN hk_
        refine ⟨trivial, ?_⟩
        refine WL.new hS87 30 [] (fun g => (.slice (some ⟨g, 0, none⟩) 1 1)) (.cells #[(.string t88)] 9 (0, 0)) [] (fun fb g => by kernel_rfl) trivial (fun g90 w91 hS92 => ?_)
        refine ⟨trivial, ?_⟩
        have hS93 := hS.go w91 [rowO 9 encStr (some ⟨g90, 0, none⟩) 1 [t88], rowO 9 encStr A4 c5 l6, rowO 9 encStr A24 c25 l26] (hS92.map1 0 _ (fun h => rowO.ofBlk h rfl (Nat.le_of_ble_eq_true (by kernel_rfl))) (fun _ h => by obtain ⟨_, h1, h2⟩ := h; injection h1 with h1; subst h1; exact h2) [1, 2] (by decide) (by decide))
        obtain ⟨h94, hl35⟩ := as_some hl35
        refine WL.append hS93 2 (d := 31) (tS := 79) (z := (.string ByteArray.empty)) (bytes := 16) (c2 := 1) rfl (fun fb => by kernel_rfl) (rowO.rd (hS93.own 0).1) (by kernel_rfl) (by kernel_rfl) rfl (by decide) h94 (by decide) [0, 1] (by decide) (by decide) (fun A95 c96 w97 hS98 => ?_)
        refine ⟨trivial, ?_⟩
        refine sg 6 [] e6 [e5, (6, (sv A95 (l26 ++ [t88]) c96)), e4, e2, e7, (23, (.agg e1)), e10] (by kernel_rfl) ?_
        refine WL.done rfl ?_
        refine WX.blockN (WX.next ?_)
        refine WC.region ?_
        refine sg 2 [] e6 [e5, (6, (sv A95 (l26 ++ [t88]) c96)), e4, e2, e7, (23, (.agg e1)), e15] (by kernel_rfl) ?_
        refine WL.done rfl ?_
        exact WX.again k32 (Nat.lt_succ_self _) ((l26 ++ [t88], w64 (x27 + 1)), A95, c96) e6 rfl ⟨(hS98.subR [0, 1]).sub [2, 0] (by decide), hl35⟩
       cases hl35
      refine WC.condF2 (fun fb => by kernel_rfl) h36 ?_
      refine WC.exit ?_
      injection hl35 with hl35
      exact WX.thenX (WX.thenX (WX.blockHere (WX.to Kx30 (l26, A24, c25) [3, 6, 9, 10, 11] rfl ⟨(hS34.subR [0, 1]).sub [0, 1] (by decide), hl35.symm⟩)))
    rintro ⟨y102, A28, c29⟩ w99 ⟨hS100, hq101⟩
    subst hq101
    refine WX.next (WC.region ?_)
    refine sg 2 [] [9, 10, 11, 33, 34] [e4, e2, e7, (33, (sv A4 l6 c5)), (34, (sv A28 x30 c29))] (by kernel_rfl) ?_
    obtain ⟨t106, ht107, hl15⟩ := bind_some hl15
    refine WL.call (some 35) 84 #[(sv A28 x30 c29), (.string (⟨#[46]⟩ : ByteArray))] (fun fb => by kernel_rfl) (join_calls Tryz.strings_Join Tryz.strings_Join_none x30 (⟨#[46]⟩ : ByteArray) A28 c29 t106 _ (hS100.ow 1) ht107) (fun v w104 hR103 => ?_)
    obtain ⟨rfl, hk_⟩ := hR103
    have hS105 := hS100.keepN hk_
    refine ⟨trivial, ?_⟩
    refine WL.new hS105 36 [] (fun g => (.slice (some ⟨g, 0, none⟩) 1 1)) (.cells #[(.string t106)] 9 (0, 0)) [] (fun fb g => by kernel_rfl) trivial (fun g108 w109 hS110 => ?_)
    refine ⟨trivial, ?_⟩
    have hS111 := hS.go w109 [rowO 9 encStr (some ⟨g108, 0, none⟩) 1 [t106], rowO 9 encStr A4 c5 l6, rowO 9 encStr A28 c29 x30] (hS110.map1 0 _ (fun h => rowO.ofBlk h rfl (Nat.le_of_ble_eq_true (by kernel_rfl))) (fun _ h => by obtain ⟨_, h1, h2⟩ := h; injection h1 with h1; subst h1; exact h2) [1, 2] (by decide) (by decide))
    obtain ⟨h112, hl15⟩ := as_some hl15
    refine WL.append hS111 1 (d := 37) (tS := 79) (z := (.string ByteArray.empty)) (bytes := 16) (c2 := 1) rfl (fun fb => by kernel_rfl) (rowO.rd (hS111.own 0).1) (by kernel_rfl) (by kernel_rfl) rfl (by decide) h112 (by decide) [0, 2] (by decide) (by decide) (fun A113 c114 w115 hS116 => ?_)
    refine ⟨trivial, ?_⟩
    refine sg 6 [] [3, 9, 10, 11] [(3, (sv A113 (l6 ++ [t106]) c114)), e4, e2, e7] (by kernel_rfl) ?_
    refine WL.done rfl ?_
    refine WX.blockN (WX.next ?_)
    refine WC.region ?_
    refine sg 2 [] [3, 9, 10, 11] [(3, (sv A113 (l6 ++ [t106]) c114)), e4, e2, (11, (iv (w64 (x7 + 1))))] (by kernel_rfl) ?_
    refine WL.done rfl ?_
    exact WX.again k12 (Nat.lt_succ_self _) ((l6 ++ [t106], w64 (x7 + 1)), A113, c114) [3, 9, 10, 11] rfl ⟨(hS116.subR [0, 1]).sub [0] (by decide), hl15⟩
   refine WC.condF2 (fun fb => by kernel_rfl) h16 ?_
   refine WC.exit ?_
   injection hl15 with hl15
   exact WX.thenX (WX.thenX (WX.blockHere (WX.to Kx10 (l6, A4, c5) [3] rfl ⟨(hS14.subR [0, 1]).sub [0] (by decide), hl15.symm⟩)))
 rintro ⟨y120, A8, c9⟩ w117 ⟨hS118, hq119⟩
 subst hq119
 refine WX.next (WC.seq (WC.region ?_))
 refine sg 1 [] [39] [(39, (sv A8 x10 c9))] (by kernel_rfl) ?_
 obtain ⟨t124, ht125, hf⟩ := bind_some hf
 refine WL.call (some 40) 84 #[(sv A8 x10 c9), (.string (⟨#[32]⟩ : ByteArray))] (fun fb => by kernel_rfl) (join_calls Tryz.strings_Join Tryz.strings_Join_none x10 (⟨#[32]⟩ : ByteArray) A8 c9 t124 _ (hS118.ow 0) ht125) (fun v w122 hR121 => ?_)
 obtain ⟨rfl, hk_⟩ := hR121
 have hS123 := hS118.keepN hk_
 refine ⟨trivial, ?_⟩
 refine sg 3 [] [2] [(2, (.string t124))] (by kernel_rfl) ?_
 refine WL.done rfl (WX.next ?_)
 refine WC.ret ?_
 injection hf with hf
 subst hf
 exact WX.ret_ [] (.string t124) [] (fun fb => by kernel_rfl) trivial ⟨_, rfl, rfl, hS123.keep⟩
theorem tile_Parse_calls (k : Nat) (p0 : ByteArray) (mG : Glo) (r : (List Tile) × Int) (w : World) (hR0 : RO NoS w (gloO Tryz.prog 5 8 3 4 mG)) (hf : tile_Parse k p0 = some r) :
  CallsR Tryz.prog 26 #[(.string p0)] w (fun v w' => ∃ (A1_ : Option Addr), ∃ (c1_ : Nat), v = (.tuple #[(sv A1_ r.1 c1_), (iv r.2)]) ∧ St NoS w w' [] [rowO 44 enc_Tile A1_ c1_ r.1]) := by
 have hS : St NoS w w [gloO Tryz.prog 5 8 3 4 mG] [] := St.init (ro_cons hR0 (ro_nil _ _))
 refine enter 76 Tryz.func26 rfl Tryz.ntmps26 rfl ?_
 unfold tile_Parse at hf
 refine WC.seq (WC.region ?_)
 refine sg 2 [] [0] [(0, (.string p0))] (by kernel_rfl) ?_
 refine WL.done rfl (WX.next (WC.seq (WC.region ?_)))
 refine sg 1 [] [0, 4] [(0, (.string p0)), (4, (.slice none 0 0))] (by kernel_rfl) ?_
 refine WL.done rfl (WX.next (WC.seq (WC.seq (WC.region ?_))))
 refine sg 1 [] [0, 4, 13] [(0, (.string p0)), (4, (.slice none 0 0)), (13, (.string p0))] (by kernel_rfl) ?_
 refine sg 2 [] [0, 4, 14] [(0, (.string p0)), (4, (.slice none 0 0)), (14, (bv (p0.toList == (⟨#[]⟩ : ByteArray).toList)))] (by kernel_rfl) ?_
 refine WL.setB 14 (strEq_raw p0 (⟨#[]⟩ : ByteArray)) rfl ?_
 refine WL.done rfl (WX.next ?_)
 rcases br_some hf with ⟨h3, hf⟩ | ⟨h3, hf⟩
 ·refine WC.condT2 (fun fb => by kernel_rfl) h3 ?_
  refine WC.seq (WC.region ?_)
  refine sg 2 [] [2, 3] [(2, (.slice none 0 0)), (3, (iv 0))] (by kernel_rfl) ?_
  refine WL.done rfl (WX.next ?_)
  refine WC.ret ?_
  have hS4 := hS.nilrow 44 enc_Tile
  injection hf with hf
  subst hf
  exact WX.thenR (WX.ret_ [] (.tuple #[(sv none ([] : List Tile) 0), (iv 0)]) [] (fun fb => by kernel_rfl) trivial ⟨_, rfl, none, 0, rfl, (hS4.sub [0] (by decide)).noR⟩)
 refine WC.condF2 (fun fb => by kernel_rfl) h3 ?_
 refine WC.skip (WX.next (WC.seq (WC.seq (WC.region ?_))))
 refine sg 3 [] [0, 4, 17] [(0, (.string p0)), (4, (.slice none 0 0)), (17, (bv (decide ((p0.size : Int) > 16000))))] (by kernel_rfl) ?_
 refine WL.done rfl (WX.next ?_)
 rcases br_some hf with ⟨h5, hf⟩ | ⟨h5, hf⟩
 ·refine WC.condT2 (fun fb => by kernel_rfl) h5 ?_
  refine WC.seq (WC.region ?_)
  refine sg 2 [] [2, 3] [(2, (.slice none 0 0)), (3, (iv 3))] (by kernel_rfl) ?_
  refine WL.done rfl (WX.next ?_)
  refine WC.ret ?_
  have hS6 := hS.nilrow 44 enc_Tile
  injection hf with hf
  subst hf
  exact WX.thenR (WX.ret_ [] (.tuple #[(sv none ([] : List Tile) 0), (iv 3)]) [] (fun fb => by kernel_rfl) trivial ⟨_, rfl, none, 0, rfl, (hS6.sub [0] (by decide)).noR⟩)
 refine WC.condF2 (fun fb => by kernel_rfl) h5 ?_
 refine WC.skip (WX.next (WC.seq (WC.seq (WC.region ?_))))
 refine sg 1 [] [0, 4, 18] [(0, (.string p0)), (4, (.slice none 0 0)), (18, (.string p0))] (by kernel_rfl) ?_
 obtain ⟨h10, hf⟩ := as_some hf
 refine WL.call (some 19) 60 #[(.string p0), (.string (⟨#[32]⟩ : ByteArray))] (fun fb => by kernel_rfl) (split_calls Tryz.strings_Split p0 (⟨#[32]⟩ : ByteArray) mG.m _ (gloO.cel (hS.rd 0)) h10) (fun v w8 hR7 => ?_)
 obtain ⟨A11, c12, rfl, hk_⟩ := hR7
 have hS9 := hS.go w8 [rowO 9 encStr A11 c12 (splitP p0 (⟨#[32]⟩ : ByteArray))] (hS.call hk_ [] [] (fun g hg => hg.elim) (by simp) (by decide))
 refine ⟨trivial, ?_⟩
 refine sg 4 [] [0, 4, 19, 20, 21] [(0, (.string p0)), (4, (.slice none 0 0)), (19, (sv A11 (splitP p0 (⟨#[32]⟩ : ByteArray)) c12)), (20, (iv ((splitP p0 (⟨#[32]⟩ : ByteArray)).length : Int))), (21, (iv 0))] (by kernel_rfl) ?_
 refine WL.done rfl (WX.next ?_)
 have hS13 := hS9.nilrow 44 enc_Tile
 obtain ⟨x20, hx21, hf⟩ := bind_some hf
 let e3 : List Nat := [0, 4, 8, 19, 20, 21, 35, 36, 37]
 let e6 : List Nat := [0, 4, 8, 19, 20, 21, 35, 36, 37, 50, 51]
 let e8 := [gloO Tryz.prog 5 8 3 4 mG]
 refine WC.cutN (T := (List Tile) × (Option Addr) × Nat) (fun t => [(0, (.string p0)), (4, (sv t.2.1 t.1 t.2.2))]) (fun t w1 => St NoS w w1 e8 [rowO 44 enc_Tile t.2.1 t.2.2 t.1] ∧ x20 = .inr t.1) (fun Kx20 => ?_) ?_
 ·
  refine WC.block ?_
  refine WC.loop (T := ((List Tile) × Int) × (Option Addr) × Nat) (fun t => [(0, (.string p0)), (4, (sv t.2.1 t.1.1 t.2.2)), (19, (sv A11 (splitP p0 (⟨#[32]⟩ : ByteArray)) c12)), (20, (iv ((splitP p0 (⟨#[32]⟩ : ByteArray)).length : Int))), (21, (iv t.1.2))]) (fun n t w1 => St NoS w w1 e8 [rowO 44 enc_Tile t.2.1 t.2.2 t.1.1, rowO 9 encStr A11 c12 (splitP p0 (⟨#[32]⟩ : ByteArray))] ∧ tile_Parse.l0 n t.1.1 t.1.2 p0 = some x20) k ((([] : List Tile), 0), none, 0) [0, 4, 19, 20, 21] rfl ⟨(hS13.subR [0]).sub [0, 1] (by decide), hx21⟩ ?_
  rintro k22 ⟨⟨l16, x17⟩, A14, c15⟩ w23 ⟨hS24, hl25⟩
  let e1 : Nat × Value := (4, (sv A14 l16 c15))
  let e2 : Nat × Value := (21, (iv x17))
  cases k22 with
  | zero => rw [tile_Parse.l0] at hl25; cases hl25
  | succ k22 =>
   rw [tile_Parse.l0] at hl25
   refine WC.seq (WC.region ?_)
   refine sg 1 [] [0, 4, 19, 20, 21, 22] [(0, (.string p0)), e1, (19, (sv A11 (splitP p0 (⟨#[32]⟩ : ByteArray)) c12)), (20, (iv ((splitP p0 (⟨#[32]⟩ : ByteArray)).length : Int))), e2, (22, (bv (decide (x17 < ((splitP p0 (⟨#[32]⟩ : ByteArray)).length : Int)))))] (by kernel_rfl) ?_
   refine WL.done rfl (WX.next (WC.seq ?_))
   rcases br_some hl25 with ⟨h27, hl25⟩ | ⟨h27, hl25⟩
   ·refine WC.condT2 (fun fb => by kernel_rfl) h27 ?_
    refine WC.skip (WX.next (WC.seq (WC.block (WC.seq (WC.region ?_)))))
    obtain ⟨h28, hl25⟩ := as_some hl25
    refine seg 3 [.v (.string (rdD (splitP p0 (⟨#[32]⟩ : ByteArray)) x17 ByteArray.empty))] [0, 4, 6, 19, 20, 21] [(0, (.string p0)), e1, (6, (.string (rdD (splitP p0 (⟨#[32]⟩ : ByteArray)) x17 ByteArray.empty))), (19, (sv A11 (splitP p0 (⟨#[32]⟩ : ByteArray)) c12)), (20, (iv ((splitP p0 (⟨#[32]⟩ : ByteArray)).length : Int))), e2] [.idx A11 x17 (splitP p0 (⟨#[32]⟩ : ByteArray)).length, .cell ((adr A11).add ((x17).toNat * 1)) (.string (rdD (splitP p0 (⟨#[32]⟩ : ByteArray)) x17 ByteArray.empty))] (fun fb => by kernel_rfl) rfl ⟨rowR.adr (rowO.rd (hS24.own 1).1) h28.1 h28.2, rowR.cell (rowO.rd (hS24.own 1).1) ByteArray.empty h28.1 h28.2 0 rfl, trivial⟩ ?_
    refine WL.done rfl (WX.next (WC.seq (WC.region ?_)))
    refine sg 1 [] [0, 4, 19, 20, 21, 25] [(0, (.string p0)), e1, (19, (sv A11 (splitP p0 (⟨#[32]⟩ : ByteArray)) c12)), (20, (iv ((splitP p0 (⟨#[32]⟩ : ByteArray)).length : Int))), e2, (25, (.string (rdD (splitP p0 (⟨#[32]⟩ : ByteArray)) x17 ByteArray.empty)))] (by kernel_rfl) ?_
    obtain ⟨h32, hl25⟩ := as_some hl25
    refine WL.call (some 26) 60 #[(.string (rdD (splitP p0 (⟨#[32]⟩ : ByteArray)) x17 ByteArray.empty)), (.string (⟨#[46]⟩ : ByteArray))] (fun fb => by kernel_rfl) (split_calls Tryz.strings_Split (rdD (splitP p0 (⟨#[32]⟩ : ByteArray)) x17 ByteArray.empty) (⟨#[46]⟩ : ByteArray) mG.m _ (gloO.cel (hS24.rd 0)) h32) (fun v w30 hR29 => ?_)
    obtain ⟨A33, c34, rfl, hk_⟩ := hR29
    have hS31 := hS9.go w30 [rowO 9 encStr A33 c34 (splitP (rdD (splitP p0 (⟨#[32]⟩ : ByteArray)) x17 ByteArray.empty) (⟨#[46]⟩ : ByteArray)), rowO 44 enc_Tile A14 c15 l16, rowO 9 encStr A11 c12 (splitP p0 (⟨#[32]⟩ : ByteArray))] (hS24.call hk_ [] [0, 1] (fun g hg => hg.elim) (by simp) (by decide))
    refine ⟨trivial, ?_⟩
    refine sg 3 [] [0, 4, 7, 19, 20, 21] [(0, (.string p0)), e1, (7, (sv A33 (splitP (rdD (splitP p0 (⟨#[32]⟩ : ByteArray)) x17 ByteArray.empty) (⟨#[46]⟩ : ByteArray)) c34)), (19, (sv A11 (splitP p0 (⟨#[32]⟩ : ByteArray)) c12)), (20, (iv ((splitP p0 (⟨#[32]⟩ : ByteArray)).length : Int))), e2] (by kernel_rfl) ?_
    refine WL.done rfl (WX.next (WC.seq (WC.seq (WC.region ?_))))
    refine sg 4 [] [0, 4, 7, 19, 20, 21, 30] [(0, (.string p0)), e1, (7, (sv A33 (splitP (rdD (splitP p0 (⟨#[32]⟩ : ByteArray)) x17 ByteArray.empty) (⟨#[46]⟩ : ByteArray)) c34)), (19, (sv A11 (splitP p0 (⟨#[32]⟩ : ByteArray)) c12)), (20, (iv ((splitP p0 (⟨#[32]⟩ : ByteArray)).length : Int))), e2, (30, (bv (((splitP (rdD (splitP p0 (⟨#[32]⟩ : ByteArray)) x17 ByteArray.empty) (⟨#[46]⟩ : ByteArray)).length : Int) != 4)))] (by kernel_rfl) ?_
    refine WL.cutV (T := Bool) 8 (fun t => [(34, (bv t)), (0, (.string p0)), e1, (7, (sv A33 (splitP (rdD (splitP p0 (⟨#[32]⟩ : ByteArray)) x17 ByteArray.empty) (⟨#[46]⟩ : ByteArray)) c34)), (19, (sv A11 (splitP p0 (⟨#[32]⟩ : ByteArray)) c12)), (20, (iv ((splitP p0 (⟨#[32]⟩ : ByteArray)).length : Int))), e2]) (fun t => ((((splitP (rdD (splitP p0 (⟨#[32]⟩ : ByteArray)) x17 ByteArray.empty) (⟨#[46]⟩ : ByteArray)).length : Int) != 4) || (decide ((l16.length : Int) > 1000))) = t) (fun K => ?_) ?_
    ·
     rcases Bool.eq_false_or_eq_true (((splitP (rdD (splitP p0 (⟨#[32]⟩ : ByteArray)) x17 ByteArray.empty) (⟨#[46]⟩ : ByteArray)).length : Int) != 4) with h35 | h35
     ·
      refine WL.setB 30 h35 rfl ?_
      refine sg 8 [] [0, 4, 7, 19, 20, 21, 34] [(0, (.string p0)), e1, (7, (sv A33 (splitP (rdD (splitP p0 (⟨#[32]⟩ : ByteArray)) x17 ByteArray.empty) (⟨#[46]⟩ : ByteArray)) c34)), (19, (sv A11 (splitP p0 (⟨#[32]⟩ : ByteArray)) c12)), (20, (iv ((splitP p0 (⟨#[32]⟩ : ByteArray)).length : Int))), e2, (34, (bv true))] (by kernel_rfl) ?_
      exact WL.toV K true [34, 0, 4, 7, 19, 20, 21] rfl (by first | (rw [h35]; done) | (rw [h35]; rfl))
     refine WL.setB 30 h35 rfl ?_
     refine sg 8 [] [0, 4, 7, 19, 20, 21, 34] [(0, (.string p0)), e1, (7, (sv A33 (splitP (rdD (splitP p0 (⟨#[32]⟩ : ByteArray)) x17 ByteArray.empty) (⟨#[46]⟩ : ByteArray)) c34)), (19, (sv A11 (splitP p0 (⟨#[32]⟩ : ByteArray)) c12)), (20, (iv ((splitP p0 (⟨#[32]⟩ : ByteArray)).length : Int))), e2, (34, (bv (decide ((l16.length : Int) > 1000))))] (by kernel_rfl) ?_
     exact WL.toV K (decide ((l16.length : Int) > 1000)) [34, 0, 4, 7, 19, 20, 21] rfl (by first | (rw [h35]; done) | (rw [h35]; rfl))
    rintro b36 rfl
    refine WL.done rfl (WX.next ?_)
    rcases br_some hl25 with ⟨h37, hl25⟩ | ⟨h37, hl25⟩
    ·refine WC.condT2 (fun fb => by kernel_rfl) h37 ?_
     refine WC.seq (WC.region ?_)
     refine sg 2 [] [2, 3] [(2, (.slice none 0 0)), (3, (iv 3))] (by kernel_rfl) ?_
     refine WL.done rfl (WX.next ?_)
     refine WC.ret ?_
     have hS38 := hS31.nilrow 44 enc_Tile
     injection hl25 with hl25
     subst hl25
     injection hf with hf
     subst hf
     exact WX.thenR (WX.blockR (WX.thenR (WX.thenR (WX.blockR (WX.thenR (WX.ret_ [] (.tuple #[(sv none ([] : List Tile) 0), (iv 3)]) [] (fun fb => by kernel_rfl) trivial ⟨_, rfl, none, 0, rfl, (hS38.sub [0] (by decide)).noR⟩))))))
    refine WC.condF2 (fun fb => by kernel_rfl) h37 ?_
    refine WC.skip (WX.next (WC.seq (WC.region ?_)))
    refine WL.new hS31 8 [] (fun g => (pt g)) (.cells #[(iv 0), (iv 0), (iv 0), (iv 0)] 81 (0, 0)) [] (fun fb g => by kernel_rfl) trivial (fun g39 w40 hS41 => ?_)
    refine ⟨trivial, ?_⟩
    refine WL.done rfl (WX.next (WC.seq (WC.seq (WC.region ?_))))
    refine sg 3 [] e3 [(0, (.string p0)), e1, (8, (pt g39)), (19, (sv A11 (splitP p0 (⟨#[32]⟩ : ByteArray)) c12)), (20, (iv ((splitP p0 (⟨#[32]⟩ : ByteArray)).length : Int))), e2, (35, (sv A33 (splitP (rdD (splitP p0 (⟨#[32]⟩ : ByteArray)) x17 ByteArray.empty) (⟨#[46]⟩ : ByteArray)) c34)), (36, (iv ((splitP (rdD (splitP p0 (⟨#[32]⟩ : ByteArray)) x17 ByteArray.empty) (⟨#[46]⟩ : ByteArray)).length : Int))), (37, (iv 0))] (by kernel_rfl) ?_
    refine WL.done rfl (WX.next ?_)
    obtain ⟨x47, hx48, hl25⟩ := bind_some hl25
    let e4 : Nat × Value := (8, (pt g39))
    refine WC.cutN (T := Int × Int × Int × Int) (fun t => [(0, (.string p0)), e1, e4, (19, (sv A11 (splitP p0 (⟨#[32]⟩ : ByteArray)) c12)), (20, (iv ((splitP p0 (⟨#[32]⟩ : ByteArray)).length : Int))), e2]) (fun t w1 => St NoS w w1 e8 [rowO 44 enc_Tile A14 c15 l16, blk g39 (.cells #[(iv t.1), (iv t.2.1), (iv t.2.2.1), (iv t.2.2.2)] 81 (0, 0)), rowO 9 encStr A11 c12 (splitP p0 (⟨#[32]⟩ : ByteArray))] ∧ x47 = .inr t) (fun Kx47 => ?_) ?_
    ·
     refine WC.block ?_
     refine WC.loop (T := Int × Int × Int × Int × Int) (fun t => [(0, (.string p0)), e1, e4, (19, (sv A11 (splitP p0 (⟨#[32]⟩ : ByteArray)) c12)), (20, (iv ((splitP p0 (⟨#[32]⟩ : ByteArray)).length : Int))), e2, (35, (sv A33 (splitP (rdD (splitP p0 (⟨#[32]⟩ : ByteArray)) x17 ByteArray.empty) (⟨#[46]⟩ : ByteArray)) c34)), (36, (iv ((splitP (rdD (splitP p0 (⟨#[32]⟩ : ByteArray)) x17 ByteArray.empty) (⟨#[46]⟩ : ByteArray)).length : Int))), (37, (iv t.2.2.2.2))]) (fun n t w1 => St NoS w w1 e8 [rowO 44 enc_Tile A14 c15 l16, blk g39 (.cells #[(iv t.1), (iv t.2.1), (iv t.2.2.1), (iv t.2.2.2.1)] 81 (0, 0)), rowO 9 encStr A11 c12 (splitP p0 (⟨#[32]⟩ : ByteArray)), rowO 9 encStr A33 c34 (splitP (rdD (splitP p0 (⟨#[32]⟩ : ByteArray)) x17 ByteArray.empty) (⟨#[46]⟩ : ByteArray))] ∧ tile_Parse.l1 n t.1 t.2.1 t.2.2.1 t.2.2.2.1 t.2.2.2.2 p0 x17 = some x47) k22 (0, 0, 0, 0, 0) e3 rfl ⟨(hS41.subR [0]).sub [2, 0, 3, 1] (by decide), hx48⟩ ?_
     rintro k49 ⟨x42, x43, x44, x45, x46⟩ w50 ⟨hS51, hl52⟩
     let e5 : Nat × Value := (37, (iv x46))
     let e9 : Nat × Value := (37, (iv (w64 (x46 + 1))))
     cases k49 with
     | zero => rw [tile_Parse.l1] at hl52; cases hl52
     | succ k49 =>
      rw [tile_Parse.l1] at hl52
      refine WC.seq (WC.region ?_)
      refine sg 1 [] [0, 4, 8, 19, 20, 21, 35, 36, 37, 38] [(0, (.string p0)), e1, e4, (19, (sv A11 (splitP p0 (⟨#[32]⟩ : ByteArray)) c12)), (20, (iv ((splitP p0 (⟨#[32]⟩ : ByteArray)).length : Int))), e2, (35, (sv A33 (splitP (rdD (splitP p0 (⟨#[32]⟩ : ByteArray)) x17 ByteArray.empty) (⟨#[46]⟩ : ByteArray)) c34)), (36, (iv ((splitP (rdD (splitP p0 (⟨#[32]⟩ : ByteArray)) x17 ByteArray.empty) (⟨#[46]⟩ : ByteArray)).length : Int))), e5, (38, (bv (decide (x46 < ((splitP (rdD (splitP p0 (⟨#[32]⟩ : ByteArray)) x17 ByteArray.empty) (⟨#[46]⟩ : ByteArray)).length : Int)))))] (by kernel_rfl) ?_
      refine WL.done rfl (WX.next (WC.seq ?_))
      rcases br_some hl52 with ⟨h53, hl52⟩ | ⟨h53, hl52⟩
      ·refine WC.condT2 (fun fb => by kernel_rfl) h53 ?_
       refine WC.skip (WX.next (WC.seq (WC.block (WC.seq (WC.region ?_)))))
       refine sg 1 [] [0, 4, 8, 19, 20, 21, 35, 36, 37, 39] [(0, (.string p0)), e1, e4, (19, (sv A11 (splitP p0 (⟨#[32]⟩ : ByteArray)) c12)), (20, (iv ((splitP p0 (⟨#[32]⟩ : ByteArray)).length : Int))), e2, (35, (sv A33 (splitP (rdD (splitP p0 (⟨#[32]⟩ : ByteArray)) x17 ByteArray.empty) (⟨#[46]⟩ : ByteArray)) c34)), (36, (iv ((splitP (rdD (splitP p0 (⟨#[32]⟩ : ByteArray)) x17 ByteArray.empty) (⟨#[46]⟩ : ByteArray)).length : Int))), e5, (39, (iv x46))] (by kernel_rfl) ?_
       obtain ⟨h54, hl52⟩ := as_some hl52
       refine seg 5 [.v (.string (rdD (splitP (rdD (splitP p0 (⟨#[32]⟩ : ByteArray)) x17 ByteArray.empty) (⟨#[46]⟩ : ByteArray)) x46 ByteArray.empty))] [0, 4, 8, 9, 10, 19, 20, 21, 35, 36, 37] [(0, (.string p0)), e1, e4, (9, (iv x46)), (10, (.string (rdD (splitP (rdD (splitP p0 (⟨#[32]⟩ : ByteArray)) x17 ByteArray.empty) (⟨#[46]⟩ : ByteArray)) x46 ByteArray.empty))), (19, (sv A11 (splitP p0 (⟨#[32]⟩ : ByteArray)) c12)), (20, (iv ((splitP p0 (⟨#[32]⟩ : ByteArray)).length : Int))), e2, (35, (sv A33 (splitP (rdD (splitP p0 (⟨#[32]⟩ : ByteArray)) x17 ByteArray.empty) (⟨#[46]⟩ : ByteArray)) c34)), (36, (iv ((splitP (rdD (splitP p0 (⟨#[32]⟩ : ByteArray)) x17 ByteArray.empty) (⟨#[46]⟩ : ByteArray)).length : Int))), e5] [.idx A33 x46 (splitP (rdD (splitP p0 (⟨#[32]⟩ : ByteArray)) x17 ByteArray.empty) (⟨#[46]⟩ : ByteArray)).length, .cell ((adr A33).add ((x46).toNat * 1)) (.string (rdD (splitP (rdD (splitP p0 (⟨#[32]⟩ : ByteArray)) x17 ByteArray.empty) (⟨#[46]⟩ : ByteArray)) x46 ByteArray.empty))] (fun fb => by kernel_rfl) rfl ⟨rowR.adr (rowO.rd (hS51.own 3).1) h54.1 h54.2, rowR.cell (rowO.rd (hS51.own 3).1) ByteArray.empty h54.1 h54.2 0 rfl, trivial⟩ ?_
       refine WL.done rfl (WX.next (WC.seq (WC.region ?_)))
       refine sg 1 [] [0, 4, 8, 9, 19, 20, 21, 35, 36, 37, 43] [(0, (.string p0)), e1, e4, (9, (iv x46)), (19, (sv A11 (splitP p0 (⟨#[32]⟩ : ByteArray)) c12)), (20, (iv ((splitP p0 (⟨#[32]⟩ : ByteArray)).length : Int))), e2, (35, (sv A33 (splitP (rdD (splitP p0 (⟨#[32]⟩ : ByteArray)) x17 ByteArray.empty) (⟨#[46]⟩ : ByteArray)) c34)), (36, (iv ((splitP (rdD (splitP p0 (⟨#[32]⟩ : ByteArray)) x17 ByteArray.empty) (⟨#[46]⟩ : ByteArray)).length : Int))), e5, (43, (.string (rdD (splitP (rdD (splitP p0 (⟨#[32]⟩ : ByteArray)) x17 ByteArray.empty) (⟨#[46]⟩ : ByteArray)) x46 ByteArray.empty)))] (by kernel_rfl) ?_
       obtain ⟨t58, ht59, hl52⟩ := bind_some hl52
       refine WL.call (some 44) 61 #[(.string (rdD (splitP (rdD (splitP p0 (⟨#[32]⟩ : ByteArray)) x17 ByteArray.empty) (⟨#[46]⟩ : ByteArray)) x46 ByteArray.empty))] (fun fb => by kernel_rfl) (atoiN_calls Tryz.strconv_Atoi_ok Tryz.strconv_Atoi_syntax Tryz.strconv_Atoi_range (rdD (splitP (rdD (splitP p0 (⟨#[32]⟩ : ByteArray)) x17 ByteArray.empty) (⟨#[46]⟩ : ByteArray)) x46 ByteArray.empty) t58 _ (hS51.rd 0) ht59) (fun v w56 hR55 => ?_)
       obtain ⟨x60, rfl, hx61, hk_⟩ := hR55
       have hS57 := hS51.keepN hk_
       refine ⟨trivial, ?_⟩
       rcases br_some hl52 with ⟨h62, hl52⟩ | ⟨h62, hl52⟩
       ·
        obtain ⟨te63, pe65, rfl⟩ := errV_true h62 hx61
        refine sg 7 [] [0, 4, 8, 9, 11, 12, 19, 20, 21, 35, 36, 37] [(0, (.string p0)), e1, e4, (9, (iv x46)), (11, (iv t58.1)), (12, (.iface te63 pe65)), (19, (sv A11 (splitP p0 (⟨#[32]⟩ : ByteArray)) c12)), (20, (iv ((splitP p0 (⟨#[32]⟩ : ByteArray)).length : Int))), e2, (35, (sv A33 (splitP (rdD (splitP p0 (⟨#[32]⟩ : ByteArray)) x17 ByteArray.empty) (⟨#[46]⟩ : ByteArray)) c34)), (36, (iv ((splitP (rdD (splitP p0 (⟨#[32]⟩ : ByteArray)) x17 ByteArray.empty) (⟨#[46]⟩ : ByteArray)).length : Int))), e5] (by kernel_rfl) ?_
        refine WL.done rfl (WX.next (WC.seq (WC.seq (WC.region ?_))))
        refine sg 2 [] [0, 4, 8, 9, 11, 19, 20, 21, 35, 36, 37, 48] [(0, (.string p0)), e1, e4, (9, (iv x46)), (11, (iv t58.1)), (19, (sv A11 (splitP p0 (⟨#[32]⟩ : ByteArray)) c12)), (20, (iv ((splitP p0 (⟨#[32]⟩ : ByteArray)).length : Int))), e2, (35, (sv A33 (splitP (rdD (splitP p0 (⟨#[32]⟩ : ByteArray)) x17 ByteArray.empty) (⟨#[46]⟩ : ByteArray)) c34)), (36, (iv ((splitP (rdD (splitP p0 (⟨#[32]⟩ : ByteArray)) x17 ByteArray.empty) (⟨#[46]⟩ : ByteArray)).length : Int))), e5, (48, (bv true))] (by kernel_rfl) ?_
        refine WL.done rfl (WX.next ?_)
        refine WC.condT (fun fb => by kernel_rfl) ?_
        refine WC.seq (WC.region ?_)
        refine sg 2 [] [2, 3] [(2, (.slice none 0 0)), (3, (iv 3))] (by kernel_rfl) ?_
        refine WL.done rfl (WX.next ?_)
        refine WC.ret ?_
        have hS66 := hS57.nilrow 44 enc_Tile
        injection hl52 with hl52
        subst hl52
        injection hl25 with hl25
        subst hl25
        injection hf with hf
        subst hf
        exact WX.thenR (WX.blockR (WX.thenR (WX.thenR (WX.blockR (WX.thenR (WX.blockR (WX.thenR (WX.thenR (WX.blockR (WX.thenR (WX.ret_ [] (.tuple #[(sv none ([] : List Tile) 0), (iv 3)]) [] (fun fb => by kernel_rfl) trivial ⟨_, rfl, none, 0, rfl, (hS66.sub [0] (by decide)).noR⟩)))))))))))
       obtain rfl := errV_false h62 hx61
       refine sg 7 [] [0, 4, 8, 9, 11, 12, 19, 20, 21, 35, 36, 37] [(0, (.string p0)), e1, e4, (9, (iv x46)), (11, (iv t58.1)), (12, .nilIface), (19, (sv A11 (splitP p0 (⟨#[32]⟩ : ByteArray)) c12)), (20, (iv ((splitP p0 (⟨#[32]⟩ : ByteArray)).length : Int))), e2, (35, (sv A33 (splitP (rdD (splitP p0 (⟨#[32]⟩ : ByteArray)) x17 ByteArray.empty) (⟨#[46]⟩ : ByteArray)) c34)), (36, (iv ((splitP (rdD (splitP p0 (⟨#[32]⟩ : ByteArray)) x17 ByteArray.empty) (⟨#[46]⟩ : ByteArray)).length : Int))), e5] (by kernel_rfl) ?_
       refine WL.done rfl (WX.next (WC.seq (WC.seq (WC.region ?_))))
       refine sg 2 [] [0, 4, 8, 9, 11, 19, 20, 21, 35, 36, 37, 48] [(0, (.string p0)), e1, e4, (9, (iv x46)), (11, (iv t58.1)), (19, (sv A11 (splitP p0 (⟨#[32]⟩ : ByteArray)) c12)), (20, (iv ((splitP p0 (⟨#[32]⟩ : ByteArray)).length : Int))), e2, (35, (sv A33 (splitP (rdD (splitP p0 (⟨#[32]⟩ : ByteArray)) x17 ByteArray.empty) (⟨#[46]⟩ : ByteArray)) c34)), (36, (iv ((splitP (rdD (splitP p0 (⟨#[32]⟩ : ByteArray)) x17 ByteArray.empty) (⟨#[46]⟩ : ByteArray)).length : Int))), e5, (48, (bv false))] (by kernel_rfl) ?_
       refine WL.done rfl (WX.next ?_)
       refine WC.condF (fun fb => by kernel_rfl) ?_
       refine WC.skip (WX.next (WC.region ?_))
       refine sg 2 [] [0, 4, 8, 19, 20, 21, 35, 36, 37, 49, 50] [(0, (.string p0)), e1, e4, (19, (sv A11 (splitP p0 (⟨#[32]⟩ : ByteArray)) c12)), (20, (iv ((splitP p0 (⟨#[32]⟩ : ByteArray)).length : Int))), e2, (35, (sv A33 (splitP (rdD (splitP p0 (⟨#[32]⟩ : ByteArray)) x17 ByteArray.empty) (⟨#[46]⟩ : ByteArray)) c34)), (36, (iv ((splitP (rdD (splitP p0 (⟨#[32]⟩ : ByteArray)) x17 ByteArray.empty) (⟨#[46]⟩ : ByteArray)).length : Int))), e5, (49, (iv x46)), (50, (iv t58.1))] (by kernel_rfl) ?_
       rcases br_some hl52 with ⟨h67, hl52⟩ | ⟨h67, hl52⟩
       ·
        refine WL.setI 49 (eq_of_beq h67) rfl ?_
        refine sg 3 [] e6 [(0, (.string p0)), e1, e4, (19, (sv A11 (splitP p0 (⟨#[32]⟩ : ByteArray)) c12)), (20, (iv ((splitP p0 (⟨#[32]⟩ : ByteArray)).length : Int))), e2, (35, (sv A33 (splitP (rdD (splitP p0 (⟨#[32]⟩ : ByteArray)) x17 ByteArray.empty) (⟨#[46]⟩ : ByteArray)) c34)), (36, (iv ((splitP (rdD (splitP p0 (⟨#[32]⟩ : ByteArray)) x17 ByteArray.empty) (⟨#[46]⟩ : ByteArray)).length : Int))), e5, (50, (iv t58.1)), (51, (pt g39))] (by kernel_rfl) ?_
        refine WL.store hS57 1 rfl [(0, (iv t58.1))] #[(iv t58.1), (iv x43), (iv x44), (iv x45)] (fun fb => by kernel_rfl) (by kernel_rfl) rfl [0, 2, 3] (by decide) (by decide) (fun w68 hS69 => ?_)
        refine ⟨trivial, ?_⟩
        refine WL.done rfl ?_
        refine WX.blockN (WX.next ?_)
        refine WC.region ?_
        refine sg 2 [] e3 [(0, (.string p0)), e1, e4, (19, (sv A11 (splitP p0 (⟨#[32]⟩ : ByteArray)) c12)), (20, (iv ((splitP p0 (⟨#[32]⟩ : ByteArray)).length : Int))), e2, (35, (sv A33 (splitP (rdD (splitP p0 (⟨#[32]⟩ : ByteArray)) x17 ByteArray.empty) (⟨#[46]⟩ : ByteArray)) c34)), (36, (iv ((splitP (rdD (splitP p0 (⟨#[32]⟩ : ByteArray)) x17 ByteArray.empty) (⟨#[46]⟩ : ByteArray)).length : Int))), e9] (by kernel_rfl) ?_
        refine WL.done rfl ?_
        exact WX.again k49 (Nat.lt_succ_self _) (t58.1, x43, x44, x45, w64 (x46 + 1)) e3 rfl ⟨(hS69.subR [0]).sub [1, 0, 2, 3] (by decide), hl52⟩
       rcases br_some hl52 with ⟨h70, hl52⟩ | ⟨h70, hl52⟩
       ·
        refine WL.setI 49 (eq_of_beq h70) rfl ?_
        refine sg 3 [] e6 [(0, (.string p0)), e1, e4, (19, (sv A11 (splitP p0 (⟨#[32]⟩ : ByteArray)) c12)), (20, (iv ((splitP p0 (⟨#[32]⟩ : ByteArray)).length : Int))), e2, (35, (sv A33 (splitP (rdD (splitP p0 (⟨#[32]⟩ : ByteArray)) x17 ByteArray.empty) (⟨#[46]⟩ : ByteArray)) c34)), (36, (iv ((splitP (rdD (splitP p0 (⟨#[32]⟩ : ByteArray)) x17 ByteArray.empty) (⟨#[46]⟩ : ByteArray)).length : Int))), e5, (50, (iv t58.1)), (51, (.pointer (some ⟨g39, 1, none⟩)))] (by kernel_rfl) ?_
        refine WL.store hS57 1 rfl [(1, (iv t58.1))] #[(iv x42), (iv t58.1), (iv x44), (iv x45)] (fun fb => by kernel_rfl) (by kernel_rfl) rfl [0, 2, 3] (by decide) (by decide) (fun w71 hS72 => ?_)
        refine ⟨trivial, ?_⟩
        refine WL.done rfl ?_
        refine WX.blockN (WX.next ?_)
        refine WC.region ?_
        refine sg 2 [] e3 [(0, (.string p0)), e1, e4, (19, (sv A11 (splitP p0 (⟨#[32]⟩ : ByteArray)) c12)), (20, (iv ((splitP p0 (⟨#[32]⟩ : ByteArray)).length : Int))), e2, (35, (sv A33 (splitP (rdD (splitP p0 (⟨#[32]⟩ : ByteArray)) x17 ByteArray.empty) (⟨#[46]⟩ : ByteArray)) c34)), (36, (iv ((splitP (rdD (splitP p0 (⟨#[32]⟩ : ByteArray)) x17 ByteArray.empty) (⟨#[46]⟩ : ByteArray)).length : Int))), e9] (by kernel_rfl) ?_
        refine WL.done rfl ?_
        exact WX.again k49 (Nat.lt_succ_self _) (x42, t58.1, x44, x45, w64 (x46 + 1)) e3 rfl ⟨(hS72.subR [0]).sub [1, 0, 2, 3] (by decide), hl52⟩
       rcases br_some hl52 with ⟨h73, hl52⟩ | ⟨h73, hl52⟩
       ·
        refine WL.setI 49 (eq_of_beq h73) rfl ?_
        refine sg 3 [] e6 [(0, (.string p0)), e1, e4, (19, (sv A11 (splitP p0 (⟨#[32]⟩ : ByteArray)) c12)), (20, (iv ((splitP p0 (⟨#[32]⟩ : ByteArray)).length : Int))), e2, (35, (sv A33 (splitP (rdD (splitP p0 (⟨#[32]⟩ : ByteArray)) x17 ByteArray.empty) (⟨#[46]⟩ : ByteArray)) c34)), (36, (iv ((splitP (rdD (splitP p0 (⟨#[32]⟩ : ByteArray)) x17 ByteArray.empty) (⟨#[46]⟩ : ByteArray)).length : Int))), e5, (50, (iv t58.1)), (51, (.pointer (some ⟨g39, 2, none⟩)))] (by kernel_rfl) ?_
        refine WL.store hS57 1 rfl [(2, (iv t58.1))] #[(iv x42), (iv x43), (iv t58.1), (iv x45)] (fun fb => by kernel_rfl) (by kernel_rfl) rfl [0, 2, 3] (by decide) (by decide) (fun w74 hS75 => ?_)
        refine ⟨trivial, ?_⟩
        refine WL.done rfl ?_
        refine WX.blockN (WX.next ?_)
        refine WC.region ?_
        refine sg 2 [] e3 [(0, (.string p0)), e1, e4, (19, (sv A11 (splitP p0 (⟨#[32]⟩ : ByteArray)) c12)), (20, (iv ((splitP p0 (⟨#[32]⟩ : ByteArray)).length : Int))), e2, (35, (sv A33 (splitP (rdD (splitP p0 (⟨#[32]⟩ : ByteArray)) x17 ByteArray.empty) (⟨#[46]⟩ : ByteArray)) c34)), (36, (iv ((splitP (rdD (splitP p0 (⟨#[32]⟩ : ByteArray)) x17 ByteArray.empty) (⟨#[46]⟩ : ByteArray)).length : Int))), e9] (by kernel_rfl) ?_
        refine WL.done rfl ?_
        exact WX.again k49 (Nat.lt_succ_self _) (x42, x43, t58.1, x45, w64 (x46 + 1)) e3 rfl ⟨(hS75.subR [0]).sub [1, 0, 2, 3] (by decide), hl52⟩
       rcases br_some hl52 with ⟨h76, hl52⟩ | ⟨h76, hl52⟩
       ·
        refine WL.setI 49 (eq_of_beq h76) rfl ?_
        refine sg 3 [] e6 [(0, (.string p0)), e1, e4, (19, (sv A11 (splitP p0 (⟨#[32]⟩ : ByteArray)) c12)), (20, (iv ((splitP p0 (⟨#[32]⟩ : ByteArray)).length : Int))), e2, (35, (sv A33 (splitP (rdD (splitP p0 (⟨#[32]⟩ : ByteArray)) x17 ByteArray.empty) (⟨#[46]⟩ : ByteArray)) c34)), (36, (iv ((splitP (rdD (splitP p0 (⟨#[32]⟩ : ByteArray)) x17 ByteArray.empty) (⟨#[46]⟩ : ByteArray)).length : Int))), e5, (50, (iv t58.1)), (51, (.pointer (some ⟨g39, 3, none⟩)))] (by kernel_rfl) ?_
        refine WL.store hS57 1 rfl [(3, (iv t58.1))] #[(iv x42), (iv x43), (iv x44), (iv t58.1)] (fun fb => by kernel_rfl) (by kernel_rfl) rfl [0, 2, 3] (by decide) (by decide) (fun w77 hS78 => ?_)
        refine ⟨trivial, ?_⟩
        refine WL.done rfl ?_
        refine WX.blockN (WX.next ?_)
        refine WC.region ?_
        refine sg 2 [] e3 [(0, (.string p0)), e1, e4, (19, (sv A11 (splitP p0 (⟨#[32]⟩ : ByteArray)) c12)), (20, (iv ((splitP p0 (⟨#[32]⟩ : ByteArray)).length : Int))), e2, (35, (sv A33 (splitP (rdD (splitP p0 (⟨#[32]⟩ : ByteArray)) x17 ByteArray.empty) (⟨#[46]⟩ : ByteArray)) c34)), (36, (iv ((splitP (rdD (splitP p0 (⟨#[32]⟩ : ByteArray)) x17 ByteArray.empty) (⟨#[46]⟩ : ByteArray)).length : Int))), e9] (by kernel_rfl) ?_
        refine WL.done rfl ?_
        exact WX.again k49 (Nat.lt_succ_self _) (x42, x43, x44, t58.1, w64 (x46 + 1)) e3 rfl ⟨(hS78.subR [0]).sub [1, 0, 2, 3] (by decide), hl52⟩
       cases hl52
      refine WC.condF2 (fun fb => by kernel_rfl) h53 ?_
      refine WC.exit ?_
      injection hl52 with hl52
      exact WX.thenX (WX.thenX (WX.blockHere (WX.to Kx47 (x42, x43, x44, x45) [0, 4, 8, 19, 20, 21] rfl ⟨(hS51.subR [0]).sub [0, 1, 2] (by decide), hl52.symm⟩)))
    rintro y82 w79 ⟨hS80, hq81⟩
    subst hq81
    have hl25 := sum_inr hl25
    refine WX.next (WC.region ?_)
    refine seg 10 [.v (iv y82.1), .v (iv y82.2.1), .v (iv y82.2.2.1), .v (iv y82.2.2.2)] [0, 19, 20, 21, 53, 62] [(0, (.string p0)), (19, (sv A11 (splitP p0 (⟨#[32]⟩ : ByteArray)) c12)), (20, (iv ((splitP p0 (⟨#[32]⟩ : ByteArray)).length : Int))), e2, (53, (sv A14 l16 c15)), (62, (.agg #[(iv y82.1), (iv y82.2.1), (iv y82.2.2.1), (iv y82.2.2.2)]))] [.cell ⟨g39, 0, none⟩ (iv y82.1), .cell ⟨g39, 1, none⟩ (iv y82.2.1), .cell ⟨g39, 2, none⟩ (iv y82.2.2.1), .cell ⟨g39, 3, none⟩ (iv y82.2.2.2)] (fun fb => by kernel_rfl) rfl ⟨hS80.cell 1 rfl 0 rfl, hS80.cell 1 rfl 1 rfl, hS80.cell 1 rfl 2 rfl, hS80.cell 1 rfl 3 rfl, trivial⟩ ?_
    refine WL.new hS80 63 [] (fun g => (.slice (some ⟨g, 0, none⟩) 1 1)) (.cells #[(iv y82.1), (iv y82.2.1), (iv y82.2.2.1), (iv y82.2.2.2)] 44 (0, 0)) [] (fun fb g => by kernel_rfl) trivial (fun g83 w84 hS85 => ?_)
    refine ⟨trivial, ?_⟩
    have hS86 := hS31.go w84 [rowO 44 enc_Tile (some ⟨g83, 0, none⟩) 1 [(Tile.mk y82.1 y82.2.1 y82.2.2.1 y82.2.2.2)], rowO 44 enc_Tile A14 c15 l16, blk g39 (.cells #[(iv y82.1), (iv y82.2.1), (iv y82.2.2.1), (iv y82.2.2.2)] 81 (0, 0)), rowO 9 encStr A11 c12 (splitP p0 (⟨#[32]⟩ : ByteArray))] (hS85.map1 0 _ (fun h => rowO.ofBlk h rfl (Nat.le_of_ble_eq_true (by kernel_rfl))) (fun _ h => by obtain ⟨_, h1, h2⟩ := h; injection h1 with h1; subst h1; exact h2) [1, 2, 3] (by decide) (by decide))
    obtain ⟨h87, hl25⟩ := as_some hl25
    refine WL.append hS86 1 (d := 64) (tS := 22) (z := (.agg #[(iv 0), (iv 0), (iv 0), (iv 0)])) (bytes := 32) (c2 := 1) rfl (fun fb => by kernel_rfl) (rowO.rd (hS86.own 0).1) (by kernel_rfl) (by kernel_rfl) rfl (by decide) h87 (by decide) [0, 2, 3] (by decide) (by decide) (fun A88 c89 w90 hS91 => ?_)
    refine ⟨trivial, ?_⟩
    refine sg 13 [] [0, 4, 19, 20, 21] [(0, (.string p0)), (4, (sv A88 (l16 ++ [(Tile.mk y82.1 y82.2.1 y82.2.2.1 y82.2.2.2)]) c89)), (19, (sv A11 (splitP p0 (⟨#[32]⟩ : ByteArray)) c12)), (20, (iv ((splitP p0 (⟨#[32]⟩ : ByteArray)).length : Int))), e2] (by kernel_rfl) ?_
    refine WL.done rfl ?_
    refine WX.blockN (WX.next ?_)
    refine WC.region ?_
    refine sg 2 [] [0, 4, 19, 20, 21] [(0, (.string p0)), (4, (sv A88 (l16 ++ [(Tile.mk y82.1 y82.2.1 y82.2.2.1 y82.2.2.2)]) c89)), (19, (sv A11 (splitP p0 (⟨#[32]⟩ : ByteArray)) c12)), (20, (iv ((splitP p0 (⟨#[32]⟩ : ByteArray)).length : Int))), (21, (iv (w64 (x17 + 1))))] (by kernel_rfl) ?_
    refine WL.done rfl ?_
    exact WX.again k22 (Nat.lt_succ_self _) ((l16 ++ [(Tile.mk y82.1 y82.2.1 y82.2.2.1 y82.2.2.2)], w64 (x17 + 1)), A88, c89) [0, 4, 19, 20, 21] rfl ⟨(hS91.subR [0]).sub [0, 3] (by decide), hl25⟩
   refine WC.condF2 (fun fb => by kernel_rfl) h27 ?_
   refine WC.exit ?_
   injection hl25 with hl25
   exact WX.thenX (WX.thenX (WX.blockHere (WX.to Kx20 (l16, A14, c15) [0, 4] rfl ⟨(hS24.subR [0]).sub [0] (by decide), hl25.symm⟩)))
 rintro ⟨y95, A18, c19⟩ w92 ⟨hS93, hq94⟩
 subst hq94
 have hf := sum_inr hf
 refine WX.next (WC.seq (WC.seq (WC.region ?_)))
 refine sg 1 [] [0, 4, 66] [(0, (.string p0)), (4, (sv A18 y95 c19)), (66, (sv A18 y95 c19))] (by kernel_rfl) ?_
 obtain ⟨t96, ht97, hf⟩ := bind_some hf
 refine WL.call (some 67) 37 #[(sv A18 y95 c19)] (fun fb => by kernel_rfl) (tile_Valid_calls _ y95 A18 c19 t96 _ (hS93.ow 0).ofO ht97) (fun v w98 hR99 => ?_)
 obtain ⟨rfl, hk_⟩ := hR99
 have hS100 := hS93.keepN hk_
 refine ⟨trivial, ?_⟩
 refine sg 4 [] [0, 4, 69] [(0, (.string p0)), (4, (sv A18 y95 c19)), (69, (bv (!t96)))] (by kernel_rfl) ?_
 obtain ⟨x101, hx102, hf⟩ := bind_some hf
 let e7 := sv A18 y95 c19
 refine WL.cutW (T := Bool) 9 (fun t => [(4, e7), (74, (bv t))]) (fun t w1 => (St NoS w w1 e8 [rowO 44 enc_Tile A18 c19 y95] ∧ x101 = t) ∧ CellsOK [] w1) (fun K => ?_) ?_
 ·
  rcases br_some hx102 with ⟨h103, hx102⟩ | ⟨h103, hx102⟩
  ·
   refine WL.setB 69 h103 rfl ?_
   refine sg 9 [] [4, 74] [(4, e7), (74, (bv true))] (by kernel_rfl) ?_
   injection hx102 with hx102
   exact WL.to K true [4, 74] rfl ⟨⟨(hS100.subR [0]).sub [0] (by decide), hx102.symm⟩, trivial⟩
  refine WL.setB 69 h103 rfl ?_
  refine sg 5 [] [0, 4, 69, 70] [(0, (.string p0)), (4, e7), (69, (bv false)), (70, e7)] (by kernel_rfl) ?_
  obtain ⟨t104, ht105, hx102⟩ := bind_some hx102
  refine WL.call (some 71) 62 #[e7] (fun fb => by kernel_rfl) (tile_write_calls _ y95 A18 c19 mG t104 _ (hS100.ow 0).ofO (hS100.rd 0) ht105) (fun v w106 hR107 => ?_)
  obtain ⟨rfl, hk_⟩ := hR107
  have hS108 := hS100.keepN hk_
  refine ⟨trivial, ?_⟩
  refine sg 7 [] [4, 69, 71, 72] [(4, e7), (69, (bv false)), (71, (.string t104)), (72, (.string p0))] (by kernel_rfl) ?_
  refine sg 8 [] [4, 69, 73] [(4, e7), (69, (bv false)), (73, (bv (!(t104.toList == p0.toList))))] (by kernel_rfl) ?_
  refine WL.setB 73 (congrArg not (strEq_raw t104 p0)) rfl ?_
  refine sg 9 [] [4, 74] [(4, e7), (74, (bv (!(strEq t104 p0))))] (by kernel_rfl) ?_
  injection hx102 with hx102
  exact WL.to K (!(strEq t104 p0)) [4, 74] rfl ⟨⟨(hS108.subR [0]).sub [0] (by decide), hx102.symm⟩, trivial⟩
 rintro y109 w111 ⟨⟨hS112, hq110⟩, hF113⟩
 subst hq110
 refine WL.done rfl (WX.next ?_)
 rcases br_some hf with ⟨h114, hf⟩ | ⟨h114, hf⟩
 ·refine WC.condT2 (fun fb => by kernel_rfl) h114 ?_
  refine WC.seq (WC.region ?_)
  refine sg 2 [] [2, 3] [(2, (.slice none 0 0)), (3, (iv 3))] (by kernel_rfl) ?_
  refine WL.done rfl (WX.next ?_)
  refine WC.ret ?_
  have hS115 := hS112.nilrow 44 enc_Tile
  injection hf with hf
  subst hf
  exact WX.thenR (WX.ret_ [] (.tuple #[(sv none ([] : List Tile) 0), (iv 3)]) [] (fun fb => by kernel_rfl) trivial ⟨_, rfl, none, 0, rfl, (hS115.sub [0] (by decide)).noR⟩)
 refine WC.condF2 (fun fb => by kernel_rfl) h114 ?_
 refine WC.skip (WX.next (WC.seq (WC.region ?_)))
 refine sg 3 [] [2, 3] [(2, e7), (3, (iv 0))] (by kernel_rfl) ?_
 refine WL.done rfl (WX.next ?_)
 refine WC.ret ?_
 injection hf with hf
 subst hf
 exact WX.ret_ [] (.tuple #[e7, (iv 0)]) [] (fun fb => by kernel_rfl) trivial ⟨_, rfl, A18, c19, rfl, (hS112.sub [0] (by decide)).noR⟩
theorem weight_needed_calls (k : Nat) (p0 : List Tile) (Aa : Option Addr) (ca : Nat) (r : Int × Int) (w : World) (hR0 : RO NoS w (rowR enc_Tile Aa ca p0)) (hf : weight_needed k p0 = some r) :
  CallsR Tryz.prog 38 #[(sv Aa p0 ca)] w (fun v w' => v = (.tuple #[(iv r.1), (iv r.2)]) ∧ Keeps NoS w w') := by
 have hS : St NoS w w [rowR enc_Tile Aa ca p0] [] := St.init (ro_cons hR0 (ro_nil _ _))
 refine enter 33 Tryz.func38 rfl Tryz.ntmps38 rfl ?_
 unfold weight_needed at hf
 refine WC.seq (WC.region ?_)
 refine sg 2 [] [0] [(0, (sv Aa p0 ca))] (by kernel_rfl) ?_
 refine WL.done rfl (WX.next (WC.seq (WC.region ?_)))
 refine sg 2 [] [0, 4, 5] [(0, (sv Aa p0 ca)), (4, (iv 0)), (5, (iv 0))] (by kernel_rfl) ?_
 refine WL.done rfl (WX.next (WC.seq (WC.seq (WC.region ?_))))
 refine sg 3 [] [4, 5, 8, 9, 10] [(4, (iv 0)), (5, (iv 0)), (8, (sv Aa p0 ca)), (9, (iv (p0.length : Int))), (10, (iv 0))] (by kernel_rfl) ?_
 refine WL.done rfl (WX.next ?_)
 obtain ⟨x6, hx7, hf⟩ := bind_some hf
 let e2 : Nat × Value := (9, (iv (p0.length : Int)))
 let e4 : Nat × Value := (8, (sv Aa p0 ca))
 let e7 : List Nat := [0, 1, 2, 3, 4, 5, 6, 7, 8, 9, 10, 11, 12, 13, 14, 15, 16, 17]
 refine WC.cutN (T := Int × Int) (fun t => [(4, (iv t.1)), (5, (iv t.2))]) (fun t w1 => St NoS w w1 [rowR enc_Tile Aa ca p0] [] ∧ x6 = t) (fun Kx6 => ?_) ?_
 ·
  refine WC.block ?_
  refine WC.loop (T := Int × Int × Int) (fun t => [(4, (iv t.1)), (5, (iv t.2.1)), e4, e2, (10, (iv t.2.2))]) (fun n t w1 => St NoS w w1 [rowR enc_Tile Aa ca p0] [] ∧ weight_needed.l0 n t.1 t.2.1 t.2.2 p0 = some x6) k (0, 0, 0) [4, 5, 8, 9, 10] rfl ⟨(hS.subR [0]).sub [] (by decide), hx7⟩ ?_
  rintro k8 ⟨x3, x4, x5⟩ w9 ⟨hS10, hl11⟩
  let e1 := rdD p0 x5 z_Tile
  let e3 := (adr Aa).add ((x5).toNat * 4)
  let e5 : Nat × Value := (4, (iv (maxI (maxI x3 (w64 ((e1.N) + 1))) (w64 ((e1.S) + 1)))))
  let e6 : Nat × Value := (5, (iv (maxI (maxI x4 (w64 ((e1.E) + 1))) (w64 ((e1.W) + 1)))))
  let e8 := iv (e1.N)
  let e9 := iv (e1.E)
  let e10 := iv (e1.S)
  let e11 := iv (e1.W)
  cases k8 with
  | zero => rw [weight_needed.l0] at hl11; cases hl11
  | succ k8 =>
   rw [weight_needed.l0] at hl11
   refine WC.seq (WC.region ?_)
   refine sg 1 [] [4, 5, 8, 9, 10, 11] [(4, (iv x3)), (5, (iv x4)), e4, e2, (10, (iv x5)), (11, (bv (decide (x5 < (p0.length : Int)))))] (by kernel_rfl) ?_
   refine WL.done rfl (WX.next (WC.seq ?_))
   rcases br_some hl11 with ⟨h12, hl11⟩ | ⟨h12, hl11⟩
   ·refine WC.condT2 (fun fb => by kernel_rfl) h12 ?_
    refine WC.skip (WX.next (WC.seq (WC.block (WC.seq (WC.region ?_)))))
    obtain ⟨h13, hl11⟩ := as_some hl11
    refine seg 2 [.v e8, .v e9, .v e10, .v e11] [4, 5, 8, 9, 10, 13] [(4, (iv x3)), (5, (iv x4)), e4, e2, (10, (iv x5)), (13, (.agg #[e8, e9, e10, e11]))] [.idx Aa x5 p0.length, .cell e3 e8, .cell (e3.add 1) e9, .cell (e3.add 2) e10, .cell (e3.add 3) e11] (fun fb => by kernel_rfl) rfl ⟨rowR.adr (hS10.rd 0).1 h13.1 h13.2, rowR.cell (hS10.rd 0).1 z_Tile h13.1 h13.2 0 rfl, rowR.cell (hS10.rd 0).1 z_Tile h13.1 h13.2 1 rfl, rowR.cell (hS10.rd 0).1 z_Tile h13.1 h13.2 2 rfl, rowR.cell (hS10.rd 0).1 z_Tile h13.1 h13.2 3 rfl, trivial⟩ ?_
    refine WL.new hS10 7 [] (fun g => (pt g)) (.cells #[(iv 0), (iv 0), (iv 0), (iv 0)] 44 (0, 0)) [] (fun fb g => by kernel_rfl) trivial (fun g14 w15 hS16 => ?_)
    refine ⟨trivial, ?_⟩
    refine WL.store hS16 0 rfl [(0, e8), (1, e9), (2, e10), (3, e11)] #[e8, e9, e10, e11] (fun fb => by kernel_rfl) (by kernel_rfl) rfl [] (by decide) (by decide) (fun w17 hS18 => ?_)
    refine ⟨trivial, ?_⟩
    refine WL.done rfl (WX.next ?_)
    refine WC.regionD ([(2, ⟨g14, 0, none⟩, e8), (5, ⟨g14, 2, none⟩, e10), (10, ⟨g14, 1, none⟩, e9), (13, ⟨g14, 3, none⟩, e11)], e7, [[], [], [1], [1, 2], [], [4], [4, 5], [0, 1, 2, 3, 4, 5, 6], [], [], [9], [9, 10], [], [12], [12, 13], [8, 9, 10, 11, 12, 13, 14], [0, 1, 2, 3, 4, 5, 6, 7], [0, 1, 2, 3, 4, 5, 6, 7, 8, 9, 10, 11, 12, 13, 14, 15, 16]]) [e7] (by kernel_rfl) (by kernel_rfl) (NoPanic.block (NoPanic.seq (NoPanic.seq (NoPanic.block (NoPanic.seq (NoPanic.body)))))) ?_
    have hS20 := hS18.drew
    revert hS20
    generalize World.drew w17 = w19
    intro hS20
    refine ⟨⟨hS20.cell 0 rfl 0 rfl, hS20.cell 0 rfl 2 rfl, hS20.cell 0 rfl 1 rfl, hS20.cell 0 rfl 3 rfl, trivial⟩, forallC ?_ (forallN)⟩
    refine segF 18 [.v e8, .v e10, .v e9, .v e11] [4, 5, 8, 9, 10] [e5, e6, e4, e2, (10, (iv x5))] [] [0, 1, 2, 3] [(2, ⟨g14, 0, none⟩, e8), (5, ⟨g14, 2, none⟩, e10), (10, ⟨g14, 1, none⟩, e9), (13, ⟨g14, 3, none⟩, e11)] (fun fb => by kernel_rfl) rfl trivial rfl ?_
    refine WL.done rfl ?_
    refine WX.blockN (WX.next ?_)
    refine WC.region ?_
    refine sg 2 [] [4, 5, 8, 9, 10] [e5, e6, e4, e2, (10, (iv (w64 (x5 + 1))))] (by kernel_rfl) ?_
    refine WL.done rfl ?_
    exact WX.again k8 (Nat.lt_succ_self _) (maxI (maxI x3 (w64 ((e1.N) + 1))) (w64 ((e1.S) + 1)), maxI (maxI x4 (w64 ((e1.E) + 1))) (w64 ((e1.W) + 1)), w64 (x5 + 1)) [4, 5, 8, 9, 10] rfl ⟨(hS20.subR [0]).sub [] (by decide), hl11⟩
   refine WC.condF2 (fun fb => by kernel_rfl) h12 ?_
   refine WC.exit ?_
   injection hl11 with hl11
   exact WX.thenX (WX.thenX (WX.blockHere (WX.to Kx6 (x3, x4) [4, 5] rfl ⟨(hS10.subR [0]).sub [] (by decide), hl11.symm⟩)))
 rintro y24 w21 ⟨hS22, hq23⟩
 subst hq23
 refine WX.next (WC.seq (WC.region ?_))
 refine sg 4 [] [2, 3] [(2, (iv x6.1)), (3, (iv x6.2))] (by kernel_rfl) ?_
 refine WL.done rfl (WX.next ?_)
 refine WC.ret ?_
 injection hf with hf
 subst hf
 exact WX.ret_ [] (.tuple #[(iv x6.1), (iv x6.2)]) [] (fun fb => by kernel_rfl) trivial ⟨_, rfl, rfl, hS22.keep⟩
theorem weight_fraction_valid_calls (p0 : Fraction)  (r : Bool) (w : World)  (hf : weight_fraction_valid p0 = some r) :
  CallsR Tryz.prog 39 #[(.agg #[(iv p0.Num), (iv p0.Den)])] w (fun v w' => v = (bv r) ∧ Keeps NoS w w') := by
 have hS : St NoS w w [] [] := St.init (ro_nil _ _)
 refine enter 21 Tryz.func39 rfl Tryz.ntmps39 rfl ?_
 unfold weight_fraction_valid at hf
 refine WC.seq (WC.region ?_)
 refine WL.new hS 1 [] (fun g => (pt g)) (.cells #[(iv p0.Num), (iv p0.Den)] 63 (0, 0)) [] (fun fb g => by kernel_rfl) trivial (fun g1 w2 hS3 => ?_)
 refine ⟨trivial, ?_⟩
 refine sg 2 [] [1] [(1, (pt g1))] (by kernel_rfl) ?_
 refine WL.done rfl (WX.next (WC.seq (WC.region ?_)))
 refine seg 4 [.v (iv p0.Den)] [1, 6] [(1, (pt g1)), (6, (bv (decide (p0.Den ≥ 1))))] [.cell ⟨g1, 1, none⟩ (iv p0.Den)] (fun fb => by kernel_rfl) rfl ⟨hS3.cell 0 rfl 1 rfl, trivial⟩ ?_
 refine WL.cutV (T := Bool) 8 (fun t => [(10, (bv t)), (1, (pt g1))]) (fun t => ((decide (p0.Den ≥ 1)) && (decide (p0.Den ≤ 1000000))) = t) (fun K => ?_) ?_
 ·
  rcases Bool.eq_false_or_eq_true (decide (p0.Den ≥ 1)) with h4 | h4
  ·
   refine WL.setB 6 h4 rfl ?_
   refine seg 8 [.v (iv p0.Den)] [1, 10] [(1, (pt g1)), (10, (bv (decide (p0.Den ≤ 1000000))))] [.cell ⟨g1, 1, none⟩ (iv p0.Den)] (fun fb => by kernel_rfl) rfl ⟨hS3.cell 0 rfl 1 rfl, trivial⟩ ?_
   exact WL.toV K (decide (p0.Den ≤ 1000000)) [10, 1] rfl (by first | (rw [h4]; done) | (rw [h4]; rfl))
  refine WL.setB 6 h4 rfl ?_
  refine sg 8 [] [1, 10] [(1, (pt g1)), (10, (bv false))] (by kernel_rfl) ?_
  exact WL.toV K false [10, 1] rfl (by first | (rw [h4]; done) | (rw [h4]; rfl))
 rintro b5 rfl
 refine sg 9 [] [1, 11] [(1, (pt g1)), (11, (bv ((decide (p0.Den ≥ 1)) && (decide (p0.Den ≤ 1000000)))))] (by kernel_rfl) ?_
 refine WL.cutV (T := Bool) 13 (fun t => [(15, (bv t)), (1, (pt g1))]) (fun t => (((decide (p0.Den ≥ 1)) && (decide (p0.Den ≤ 1000000))) && (decide (p0.Num ≥ (-1000000)))) = t) (fun K => ?_) ?_
 ·
  rcases Bool.eq_false_or_eq_true ((decide (p0.Den ≥ 1)) && (decide (p0.Den ≤ 1000000))) with h6 | h6
  ·
   refine WL.setB 11 h6 rfl ?_
   refine seg 13 [.v (iv p0.Num)] [1, 15] [(1, (pt g1)), (15, (bv (decide (p0.Num ≥ (-1000000)))))] [.cell ⟨g1, 0, none⟩ (iv p0.Num)] (fun fb => by kernel_rfl) rfl ⟨hS3.cell 0 rfl 0 rfl, trivial⟩ ?_
   exact WL.toV K (decide (p0.Num ≥ (-1000000))) [15, 1] rfl (by first | (rw [h6]; done) | (rw [h6]; rfl))
  refine WL.setB 11 h6 rfl ?_
  refine sg 13 [] [1, 15] [(1, (pt g1)), (15, (bv false))] (by kernel_rfl) ?_
  exact WL.toV K false [15, 1] rfl (by first | (rw [h6]; done) | (rw [h6]; rfl))
 rintro b7 rfl
 refine sg 14 [] [1, 16] [(1, (pt g1)), (16, (bv (((decide (p0.Den ≥ 1)) && (decide (p0.Den ≤ 1000000))) && (decide (p0.Num ≥ (-1000000))))))] (by kernel_rfl) ?_
 refine WL.cutV (T := Bool) 18 (fun t => [(20, (bv t))]) (fun t => ((((decide (p0.Den ≥ 1)) && (decide (p0.Den ≤ 1000000))) && (decide (p0.Num ≥ (-1000000)))) && (decide (p0.Num ≤ 1000000))) = t) (fun K => ?_) ?_
 ·
  rcases Bool.eq_false_or_eq_true (((decide (p0.Den ≥ 1)) && (decide (p0.Den ≤ 1000000))) && (decide (p0.Num ≥ (-1000000)))) with h8 | h8
  ·
   refine WL.setB 16 h8 rfl ?_
   refine seg 18 [.v (iv p0.Num)] [20] [(20, (bv (decide (p0.Num ≤ 1000000))))] [.cell ⟨g1, 0, none⟩ (iv p0.Num)] (fun fb => by kernel_rfl) rfl ⟨hS3.cell 0 rfl 0 rfl, trivial⟩ ?_
   exact WL.toV K (decide (p0.Num ≤ 1000000)) [20] rfl (by first | (rw [h8]; done) | (rw [h8]; rfl))
  refine WL.setB 16 h8 rfl ?_
  refine sg 18 [] [20] [(20, (bv false))] (by kernel_rfl) ?_
  exact WL.toV K false [20] rfl (by first | (rw [h8]; done) | (rw [h8]; rfl))
 rintro b9 rfl
 refine sg 19 [] [2] [(2, (bv ((((decide (p0.Den ≥ 1)) && (decide (p0.Den ≤ 1000000))) && (decide (p0.Num ≥ (-1000000)))) && (decide (p0.Num ≤ 1000000)))))] (by kernel_rfl) ?_
 refine WL.done rfl (WX.next ?_)
 refine WC.ret ?_
 injection hf with hf
 subst hf
 exact WX.ret_ [] (bv ((((decide (p0.Den ≥ 1)) && (decide (p0.Den ≤ 1000000))) && (decide (p0.Num ≥ (-1000000)))) && (decide (p0.Num ≤ 1000000)))) [] (fun fb => by kernel_rfl) trivial ⟨_, rfl, rfl, hS3.keep⟩
theorem weight_all_1_of_weight_fraction_valid_calls (p0 : Frac) (ga : Nat) (r : Bool) (w : World) (hR0 : RO NoS w (blk ga (.cells #[(.func (.func 39) #[] #[])] 65 (0, 0)))) (hf : weight_all_1_of_weight_fraction_valid p0 = some r) :
  CallsR Tryz.prog 68 #[(.agg #[(iv p0.Num), (iv p0.Den)]), (pt ga)] w (fun v w' => v = (bv r) ∧ Keeps NoS w w') := by
 have hS : St NoS w w [blk ga (.cells #[(.func (.func 39) #[] #[])] 65 (0, 0))] [] := St.init (ro_cons hR0 (ro_nil _ _))
 refine enter 8 Tryz.func68 rfl Tryz.ntmps68 rfl ?_
 unfold weight_all_1_of_weight_fraction_valid at hf
 refine WC.seq (WC.region ?_)
 refine WL.new hS 2 [] (fun g => (pt g)) (.cells #[(iv p0.Num), (iv p0.Den)] 33 (0, 0)) [] (fun fb g => by kernel_rfl) trivial (fun g2 w3 hS4 => ?_)
 refine ⟨trivial, ?_⟩
 refine sg 2 [] [1, 2] [(1, (pt ga)), (2, (pt g2))] (by kernel_rfl) ?_
 refine WL.done rfl (WX.next (WC.seq (WC.region ?_)))
 refine seg 2 [.v (.func (.func 39) #[] #[]), .v (iv p0.Num), .v (iv p0.Den)] [4, 5] [(4, (.func (.func 39) #[] #[])), (5, (.agg #[(iv p0.Num), (iv p0.Den)]))] [.cell ⟨ga, 0, none⟩ (.func (.func 39) #[] #[]), .cell ⟨g2, 0, none⟩ (iv p0.Num), .cell ⟨g2, 1, none⟩ (iv p0.Den)] (fun fb => by kernel_rfl) rfl ⟨blk_cell (hS4.rd 0).1 0 rfl, hS4.cell 0 rfl 0 rfl, hS4.cell 0 rfl 1 rfl, trivial⟩ ?_
 obtain ⟨t5, ht6, hf⟩ := bind_some hf
 refine WL.call (some 6) 39 #[(.agg #[(iv p0.Num), (iv p0.Den)])] (fun fb => by kernel_rfl) (weight_fraction_valid_calls (Fraction.mk p0.Num p0.Den) t5 _ ht6) (fun v w7 hR8 => ?_)
 obtain ⟨rfl, hk_⟩ := hR8
 have hS9 := hS4.keepN hk_
 refine ⟨trivial, ?_⟩
 refine sg 5 [] [3] [(3, (bv (!t5)))] (by kernel_rfl) ?_
 refine WL.done rfl (WX.next ?_)
 refine WC.ret ?_
 injection hf with hf
 subst hf
 exact WX.ret_ [] (bv (!t5)) [] (fun fb => by kernel_rfl) trivial ⟨_, rfl, rfl, hS9.keep⟩
theorem slices_IndexFunc_api_Frac_api_Frac_with_weight_all_1_of_weight_fraction_valid_calls (k : Nat) (p0 : List Frac) (Aa : Option Addr) (ca : Nat) (ga : Nat) (r : Int) (w : World) (hR0 : RO NoS w (rowR enc_Frac Aa ca p0)) (hR1 : RO NoS w (blk ga (.cells #[(.func (.func 39) #[] #[])] 65 (0, 0)))) (hf : slices_IndexFunc_api_Frac_api_Frac_with_weight_all_1_of_weight_fraction_valid k p0 = some r) :
  CallsR Tryz.prog 88 #[(sv Aa p0 ca), (.func (.func 68) #[] #[(pt ga)])] w (fun v w' => v = (iv r) ∧ Keeps NoS w w') := by
 have hS : St NoS w w [rowR enc_Frac Aa ca p0, blk ga (.cells #[(.func (.func 39) #[] #[])] 65 (0, 0))] [] := St.init (ro_cons hR0 (ro_cons hR1 (ro_nil _ _)))
 refine enter 19 Tryz.func88 rfl Tryz.ntmps88 rfl ?_
 unfold slices_IndexFunc_api_Frac_api_Frac_with_weight_all_1_of_weight_fraction_valid at hf
 refine WC.seq (WC.region ?_)
 refine sg 1 [] [0, 1] [(0, (sv Aa p0 ca)), (1, (.func (.func 68) #[] #[(pt ga)]))] (by kernel_rfl) ?_
 refine WL.done rfl (WX.next (WC.seq (WC.seq (WC.region ?_))))
 refine sg 3 [] [0, 1, 7, 8] [(0, (sv Aa p0 ca)), (1, (.func (.func 68) #[] #[(pt ga)])), (7, (iv (p0.length : Int))), (8, (iv 0))] (by kernel_rfl) ?_
 refine WL.done rfl (WX.next ?_)
 obtain ⟨x4, hx5, hf⟩ := bind_some hf
 let e1 : Nat × Value := (7, (iv (p0.length : Int)))
 let e3 : Nat × Value := (0, (sv Aa p0 ca))
 refine WC.cutN (T := Unit) (fun t => []) (fun t w1 => St NoS w w1 [rowR enc_Frac Aa ca p0, blk ga (.cells #[(.func (.func 39) #[] #[])] 65 (0, 0))] [] ∧ x4 = .inr t) (fun Kx4 => ?_) ?_
 ·
  refine WC.block ?_
  refine WC.loop (T := Int) (fun t => [e3, (1, (.func (.func 68) #[] #[(pt ga)])), e1, (8, (iv t))]) (fun n t w1 => St NoS w w1 [rowR enc_Frac Aa ca p0, blk ga (.cells #[(.func (.func 39) #[] #[])] 65 (0, 0))] [] ∧ slices_IndexFunc_api_Frac_api_Frac_with_weight_all_1_of_weight_fraction_valid.l0 n t p0 = some x4) k 0 [0, 1, 7, 8] rfl ⟨(hS.subR [0, 1]).sub [] (by decide), hx5⟩ ?_
  rintro k6 x3 w7 ⟨hS8, hl9⟩
  let e2 := rdD p0 x3 z_Frac
  cases k6 with
  | zero => rw [slices_IndexFunc_api_Frac_api_Frac_with_weight_all_1_of_weight_fraction_valid.l0] at hl9; cases hl9
  | succ k6 =>
   rw [slices_IndexFunc_api_Frac_api_Frac_with_weight_all_1_of_weight_fraction_valid.l0] at hl9
   refine WC.seq (WC.region ?_)
   refine sg 1 [] [0, 1, 7, 8, 9] [e3, (1, (.func (.func 68) #[] #[(pt ga)])), e1, (8, (iv x3)), (9, (bv (decide (x3 < (p0.length : Int)))))] (by kernel_rfl) ?_
   refine WL.done rfl (WX.next (WC.seq ?_))
   rcases br_some hl9 with ⟨h10, hl9⟩ | ⟨h10, hl9⟩
   ·refine WC.condT2 (fun fb => by kernel_rfl) h10 ?_
    refine WC.skip (WX.next (WC.seq (WC.block (WC.seq (WC.region ?_)))))
    refine sg 2 [] [0, 1, 5, 7, 8] [e3, (1, (.func (.func 68) #[] #[(pt ga)])), (5, (iv x3)), e1, (8, (iv x3))] (by kernel_rfl) ?_
    refine WL.done rfl (WX.next (WC.seq (WC.region ?_)))
    refine sg 3 [] [0, 1, 5, 7, 8, 11, 12, 13] [e3, (1, (.func (.func 68) #[] #[(pt ga)])), (5, (iv x3)), e1, (8, (iv x3)), (11, (.func (.func 68) #[] #[(pt ga)])), (12, (sv Aa p0 ca)), (13, (iv x3))] (by kernel_rfl) ?_
    obtain ⟨h11, hl9⟩ := as_some hl9
    refine seg 5 [.v (iv (e2.Num)), .v (iv (e2.Den))] [0, 1, 5, 7, 8, 11, 15] [e3, (1, (.func (.func 68) #[] #[(pt ga)])), (5, (iv x3)), e1, (8, (iv x3)), (11, (.func (.func 68) #[] #[(pt ga)])), (15, (.agg #[(iv (e2.Num)), (iv (e2.Den))]))] [.idx Aa x3 p0.length, .cell ((adr Aa).add ((x3).toNat * 2)) (iv (e2.Num)), .cell (((adr Aa).add ((x3).toNat * 2)).add 1) (iv (e2.Den))] (fun fb => by kernel_rfl) rfl ⟨rowR.adr (hS8.rd 0).1 h11.1 h11.2, rowR.cell (hS8.rd 0).1 z_Frac h11.1 h11.2 0 rfl, rowR.cell (hS8.rd 0).1 z_Frac h11.1 h11.2 1 rfl, trivial⟩ ?_
    obtain ⟨t12, ht13, hl9⟩ := bind_some hl9
    refine WL.call (some 16) 68 #[(.agg #[(iv (e2.Num)), (iv (e2.Den))]), (pt ga)] (fun fb => by kernel_rfl) (weight_all_1_of_weight_fraction_valid_calls e2 ga t12 _ (hS8.rd 1) ht13) (fun v w14 hR15 => ?_)
    obtain ⟨rfl, hk_⟩ := hR15
    have hS16 := hS8.keepN hk_
    refine ⟨trivial, ?_⟩
    refine WL.done rfl (WX.next ?_)
    rcases br_some hl9 with ⟨h17, hl9⟩ | ⟨h17, hl9⟩
    ·refine WC.condT2 (fun fb => by kernel_rfl) h17 ?_
     refine WC.seq (WC.region ?_)
     refine sg 2 [] [4] [(4, (iv x3))] (by kernel_rfl) ?_
     refine WL.done rfl (WX.next ?_)
     refine WC.ret ?_
     injection hl9 with hl9
     subst hl9
     injection hf with hf
     subst hf
     exact WX.blockR (WX.thenR (WX.thenR (WX.blockR (WX.thenR (WX.ret_ [] (iv x3) [] (fun fb => by kernel_rfl) trivial ⟨_, rfl, rfl, hS16.keep⟩)))))
    refine WC.condF2 (fun fb => by kernel_rfl) h17 ?_
    refine WC.skip ?_
    refine WX.blockN (WX.next ?_)
    refine WC.region ?_
    refine sg 2 [] [0, 1, 7, 8] [e3, (1, (.func (.func 68) #[] #[(pt ga)])), e1, (8, (iv (w64 (x3 + 1))))] (by kernel_rfl) ?_
    refine WL.done rfl ?_
    exact WX.again k6 (Nat.lt_succ_self _) (w64 (x3 + 1)) [0, 1, 7, 8] rfl ⟨(hS16.subR [0, 1]).sub [] (by decide), hl9⟩
   refine WC.condF2 (fun fb => by kernel_rfl) h10 ?_
   refine WC.exit ?_
   injection hl9 with hl9
   exact WX.thenX (WX.thenX (WX.blockHere (WX.to Kx4 () [] rfl ⟨(hS8.subR [0, 1]).sub [] (by decide), hl9.symm⟩)))
 rintro y21 w18 ⟨hS19, hq20⟩
 subst hq20
 have hf := sum_inr hf
 refine WX.next (WC.seq (WC.region ?_))
 refine sg 1 [] [4] [(4, (iv (-1)))] (by kernel_rfl) ?_
 refine WL.done rfl (WX.next ?_)
 refine WC.ret ?_
 injection hf with hf
 subst hf
 exact WX.ret_ [] (iv (-1)) [] (fun fb => by kernel_rfl) trivial ⟨_, rfl, rfl, hS19.keep⟩
theorem slices_ContainsFunc_api_Frac_api_Frac_with_weight_all_1_of_weight_fraction_valid_calls (k : Nat) (p0 : List Frac) (Aa : Option Addr) (ca : Nat) (ga : Nat) (r : Bool) (w : World) (hR0 : RO NoS w (rowR enc_Frac Aa ca p0)) (hR1 : RO NoS w (blk ga (.cells #[(.func (.func 39) #[] #[])] 65 (0, 0)))) (hf : slices_ContainsFunc_api_Frac_api_Frac_with_weight_all_1_of_weight_fraction_valid k p0 = some r) :
  CallsR Tryz.prog 67 #[(sv Aa p0 ca), (.func (.func 68) #[] #[(pt ga)])] w (fun v w' => v = (bv r) ∧ Keeps NoS w w') := by
 have hS : St NoS w w [rowR enc_Frac Aa ca p0, blk ga (.cells #[(.func (.func 39) #[] #[])] 65 (0, 0))] [] := St.init (ro_cons hR0 (ro_cons hR1 (ro_nil _ _)))
 refine enter 9 Tryz.func67 rfl Tryz.ntmps67 rfl ?_
 unfold slices_ContainsFunc_api_Frac_api_Frac_with_weight_all_1_of_weight_fraction_valid at hf
 refine WC.seq (WC.region ?_)
 refine sg 1 [] [0, 1] [(0, (sv Aa p0 ca)), (1, (.func (.func 68) #[] #[(pt ga)]))] (by kernel_rfl) ?_
 refine WL.done rfl (WX.next (WC.seq (WC.region ?_)))
 refine sg 2 [] [5, 6] [(5, (sv Aa p0 ca)), (6, (.func (.func 68) #[] #[(pt ga)]))] (by kernel_rfl) ?_
 obtain ⟨t2, ht3, hf⟩ := bind_some hf
 refine WL.call (some 7) 88 #[(sv Aa p0 ca), (.func (.func 68) #[] #[(pt ga)])] (fun fb => by kernel_rfl) (slices_IndexFunc_api_Frac_api_Frac_with_weight_all_1_of_weight_fraction_valid_calls _ p0 Aa ca ga t2 _ (hS.rd 0) (hS.rd 1) ht3) (fun v w4 hR5 => ?_)
 obtain ⟨rfl, hk_⟩ := hR5
 have hS6 := hS.keepN hk_
 refine ⟨trivial, ?_⟩
 refine sg 5 [] [4] [(4, (bv (decide (t2 ≥ 0))))] (by kernel_rfl) ?_
 refine WL.done rfl (WX.next ?_)
 refine WC.ret ?_
 injection hf with hf
 subst hf
 exact WX.ret_ [] (bv (decide (t2 ≥ 0))) [] (fun fb => by kernel_rfl) trivial ⟨_, rfl, rfl, hS6.keep⟩
theorem weight_all_with_weight_fraction_valid_calls (k : Nat) (p0 : List Frac) (Aa : Option Addr) (ca : Nat) (r : Bool) (w : World) (hR0 : RO NoS w (rowR enc_Frac Aa ca p0)) (hf : weight_all_with_weight_fraction_valid k p0 = some r) :
  CallsR Tryz.prog 34 #[(sv Aa p0 ca), (.func (.func 39) #[] #[])] w (fun v w' => v = (bv r) ∧ Keeps NoS w w') := by
 have hS : St NoS w w [rowR enc_Frac Aa ca p0] [] := St.init (ro_cons hR0 (ro_nil _ _))
 refine enter 9 Tryz.func34 rfl Tryz.ntmps34 rfl ?_
 unfold weight_all_with_weight_fraction_valid at hf
 refine WC.seq (WC.region ?_)
 refine WL.new hS 3 [] (fun g => (pt g)) (.cells #[(.func (.func 39) #[] #[])] 65 (0, 0)) [] (fun fb g => by kernel_rfl) trivial (fun g2 w3 hS4 => ?_)
 refine ⟨trivial, ?_⟩
 refine sg 2 [] [0, 3] [(0, (sv Aa p0 ca)), (3, (pt g2))] (by kernel_rfl) ?_
 refine WL.done rfl (WX.next (WC.seq (WC.region ?_)))
 refine sg 2 [] [5, 6] [(5, (sv Aa p0 ca)), (6, (.func (.func 68) #[] #[(pt g2)]))] (by kernel_rfl) ?_
 obtain ⟨t5, ht6, hf⟩ := bind_some hf
 refine WL.call (some 7) 67 #[(sv Aa p0 ca), (.func (.func 68) #[] #[(pt g2)])] (fun fb => by kernel_rfl) (slices_ContainsFunc_api_Frac_api_Frac_with_weight_all_1_of_weight_fraction_valid_calls _ p0 Aa ca g2 t5 _ (hS4.rd 0) (hS4.ow 0) ht6) (fun v w7 hR8 => ?_)
 obtain ⟨rfl, hk_⟩ := hR8
 have hS9 := hS4.keepN hk_
 refine ⟨trivial, ?_⟩
 refine sg 5 [] [4] [(4, (bv (!t5)))] (by kernel_rfl) ?_
 refine WL.done rfl (WX.next ?_)
 refine WC.ret ?_
 injection hf with hf
 subst hf
 exact WX.ret_ [] (bv (!t5)) [] (fun fb => by kernel_rfl) trivial ⟨_, rfl, rfl, hS9.keep⟩
theorem weight_Valid_1_calls (p0 : Fraction)  (r : Bool) (w : World)  (hf : weight_Valid_1 p0 = some r) :
  CallsR Tryz.prog 40 #[(.agg #[(iv p0.Num), (iv p0.Den)])] w (fun v w' => v = (bv r) ∧ Keeps NoS w w') := by
 have hS : St NoS w w [] [] := St.init (ro_nil _ _)
 refine enter 6 Tryz.func40 rfl Tryz.ntmps40 rfl ?_
 unfold weight_Valid_1 at hf
 refine WC.seq (WC.region ?_)
 refine WL.new hS 1 [] (fun g => (pt g)) (.cells #[(iv p0.Num), (iv p0.Den)] 63 (0, 0)) [] (fun fb g => by kernel_rfl) trivial (fun g2 w3 hS4 => ?_)
 refine ⟨trivial, ?_⟩
 refine sg 2 [] [1] [(1, (pt g2))] (by kernel_rfl) ?_
 refine WL.done rfl (WX.next (WC.seq (WC.region ?_)))
 refine seg 4 [.v (iv p0.Num)] [2] [(2, (bv (decide (p0.Num ≥ 0))))] [.cell ⟨g2, 0, none⟩ (iv p0.Num)] (fun fb => by kernel_rfl) rfl ⟨hS4.cell 0 rfl 0 rfl, trivial⟩ ?_
 refine WL.done rfl (WX.next ?_)
 refine WC.ret ?_
 injection hf with hf
 subst hf
 exact WX.ret_ [] (bv (decide (p0.Num ≥ 0))) [] (fun fb => by kernel_rfl) trivial ⟨_, rfl, rfl, hS4.keep⟩
theorem weight_all_1_of_weight_Valid_1_calls (p0 : Frac) (ga : Nat) (r : Bool) (w : World) (hR0 : RO NoS w (blk ga (.cells #[(.func (.func 40) #[] #[])] 65 (0, 0)))) (hf : weight_all_1_of_weight_Valid_1 p0 = some r) :
  CallsR Tryz.prog 68 #[(.agg #[(iv p0.Num), (iv p0.Den)]), (pt ga)] w (fun v w' => v = (bv r) ∧ Keeps NoS w w') := by
 have hS : St NoS w w [blk ga (.cells #[(.func (.func 40) #[] #[])] 65 (0, 0))] [] := St.init (ro_cons hR0 (ro_nil _ _))
 refine enter 8 Tryz.func68 rfl Tryz.ntmps68 rfl ?_
 unfold weight_all_1_of_weight_Valid_1 at hf
 refine WC.seq (WC.region ?_)
 refine WL.new hS 2 [] (fun g => (pt g)) (.cells #[(iv p0.Num), (iv p0.Den)] 33 (0, 0)) [] (fun fb g => by kernel_rfl) trivial (fun g2 w3 hS4 => ?_)
 refine ⟨trivial, ?_⟩
 refine sg 2 [] [1, 2] [(1, (pt ga)), (2, (pt g2))] (by kernel_rfl) ?_
 refine WL.done rfl (WX.next (WC.seq (WC.region ?_)))
 refine seg 2 [.v (.func (.func 40) #[] #[]), .v (iv p0.Num), .v (iv p0.Den)] [4, 5] [(4, (.func (.func 40) #[] #[])), (5, (.agg #[(iv p0.Num), (iv p0.Den)]))] [.cell ⟨ga, 0, none⟩ (.func (.func 40) #[] #[]), .cell ⟨g2, 0, none⟩ (iv p0.Num), .cell ⟨g2, 1, none⟩ (iv p0.Den)] (fun fb => by kernel_rfl) rfl ⟨blk_cell (hS4.rd 0).1 0 rfl, hS4.cell 0 rfl 0 rfl, hS4.cell 0 rfl 1 rfl, trivial⟩ ?_
 obtain ⟨t5, ht6, hf⟩ := bind_some hf
 refine WL.call (some 6) 40 #[(.agg #[(iv p0.Num), (iv p0.Den)])] (fun fb => by kernel_rfl) (weight_Valid_1_calls (Fraction.mk p0.Num p0.Den) t5 _ ht6) (fun v w7 hR8 => ?_)
 obtain ⟨rfl, hk_⟩ := hR8
 have hS9 := hS4.keepN hk_
 refine ⟨trivial, ?_⟩
 refine sg 5 [] [3] [(3, (bv (!t5)))] (by kernel_rfl) ?_
 refine WL.done rfl (WX.next ?_)
 refine WC.ret ?_
 injection hf with hf
 subst hf
 exact WX.ret_ [] (bv (!t5)) [] (fun fb => by kernel_rfl) trivial ⟨_, rfl, rfl, hS9.keep⟩
theorem slices_IndexFunc_api_Frac_api_Frac_with_weight_all_1_of_weight_Valid_1_calls (k : Nat) (p0 : List Frac) (Aa : Option Addr) (ca : Nat) (ga : Nat) (r : Int) (w : World) (hR0 : RO NoS w (rowR enc_Frac Aa ca p0)) (hR1 : RO NoS w (blk ga (.cells #[(.func (.func 40) #[] #[])] 65 (0, 0)))) (hf : slices_IndexFunc_api_Frac_api_Frac_with_weight_all_1_of_weight_Valid_1 k p0 = some r) :
  CallsR Tryz.prog 88 #[(sv Aa p0 ca), (.func (.func 68) #[] #[(pt ga)])] w (fun v w' => v = (iv r) ∧ Keeps NoS w w') := by
 have hS : St NoS w w [rowR enc_Frac Aa ca p0, blk ga (.cells #[(.func (.func 40) #[] #[])] 65 (0, 0))] [] := St.init (ro_cons hR0 (ro_cons hR1 (ro_nil _ _)))
 refine enter 19 Tryz.func88 rfl Tryz.ntmps88 rfl ?_
 unfold slices_IndexFunc_api_Frac_api_Frac_with_weight_all_1_of_weight_Valid_1 at hf
 refine WC.seq (WC.region ?_)
 refine sg 1 [] [0, 1] [(0, (sv Aa p0 ca)), (1, (.func (.func 68) #[] #[(pt ga)]))] (by kernel_rfl) ?_
 refine WL.done rfl (WX.next (WC.seq (WC.seq (WC.region ?_))))
 refine sg 3 [] [0, 1, 7, 8] [(0, (sv Aa p0 ca)), (1, (.func (.func 68) #[] #[(pt ga)])), (7, (iv (p0.length : Int))), (8, (iv 0))] (by kernel_rfl) ?_
 refine WL.done rfl (WX.next ?_)
 obtain ⟨x4, hx5, hf⟩ := bind_some hf
 let e1 : Nat × Value := (7, (iv (p0.length : Int)))
 let e3 : Nat × Value := (0, (sv Aa p0 ca))
 refine WC.cutN (T := Unit) (fun t => []) (fun t w1 => St NoS w w1 [rowR enc_Frac Aa ca p0, blk ga (.cells #[(.func (.func 40) #[] #[])] 65 (0, 0))] [] ∧ x4 = .inr t) (fun Kx4 => ?_) ?_
 ·
  refine WC.block ?_
  refine WC.loop (T := Int) (fun t => [e3, (1, (.func (.func 68) #[] #[(pt ga)])), e1, (8, (iv t))]) (fun n t w1 => St NoS w w1 [rowR enc_Frac Aa ca p0, blk ga (.cells #[(.func (.func 40) #[] #[])] 65 (0, 0))] [] ∧ slices_IndexFunc_api_Frac_api_Frac_with_weight_all_1_of_weight_Valid_1.l0 n t p0 = some x4) k 0 [0, 1, 7, 8] rfl ⟨(hS.subR [0, 1]).sub [] (by decide), hx5⟩ ?_
  rintro k6 x3 w7 ⟨hS8, hl9⟩
  let e2 := rdD p0 x3 z_Frac
  cases k6 with
  | zero => rw [slices_IndexFunc_api_Frac_api_Frac_with_weight_all_1_of_weight_Valid_1.l0] at hl9; cases hl9
  | succ k6 =>
   rw [slices_IndexFunc_api_Frac_api_Frac_with_weight_all_1_of_weight_Valid_1.l0] at hl9
   refine WC.seq (WC.region ?_)
   refine sg 1 [] [0, 1, 7, 8, 9] [e3, (1, (.func (.func 68) #[] #[(pt ga)])), e1, (8, (iv x3)), (9, (bv (decide (x3 < (p0.length : Int)))))] (by kernel_rfl) ?_
   refine WL.done rfl (WX.next (WC.seq ?_))
   rcases br_some hl9 with ⟨h10, hl9⟩ | ⟨h10, hl9⟩
   ·refine WC.condT2 (fun fb => by kernel_rfl) h10 ?_
    refine WC.skip (WX.next (WC.seq (WC.block (WC.seq (WC.region ?_)))))
    refine sg 2 [] [0, 1, 5, 7, 8] [e3, (1, (.func (.func 68) #[] #[(pt ga)])), (5, (iv x3)), e1, (8, (iv x3))] (by kernel_rfl) ?_
    refine WL.done rfl (WX.next (WC.seq (WC.region ?_)))
    refine sg 3 [] [0, 1, 5, 7, 8, 11, 12, 13] [e3, (1, (.func (.func 68) #[] #[(pt ga)])), (5, (iv x3)), e1, (8, (iv x3)), (11, (.func (.func 68) #[] #[(pt ga)])), (12, (sv Aa p0 ca)), (13, (iv x3))] (by kernel_rfl) ?_
    obtain ⟨h11, hl9⟩ := as_some hl9
    refine seg 5 [.v (iv (e2.Num)), .v (iv (e2.Den))] [0, 1, 5, 7, 8, 11, 15] [e3, (1, (.func (.func 68) #[] #[(pt ga)])), (5, (iv x3)), e1, (8, (iv x3)), (11, (.func (.func 68) #[] #[(pt ga)])), (15, (.agg #[(iv (e2.Num)), (iv (e2.Den))]))] [.idx Aa x3 p0.length, .cell ((adr Aa).add ((x3).toNat * 2)) (iv (e2.Num)), .cell (((adr Aa).add ((x3).toNat * 2)).add 1) (iv (e2.Den))] (fun fb => by kernel_rfl) rfl ⟨rowR.adr (hS8.rd 0).1 h11.1 h11.2, rowR.cell (hS8.rd 0).1 z_Frac h11.1 h11.2 0 rfl, rowR.cell (hS8.rd 0).1 z_Frac h11.1 h11.2 1 rfl, trivial⟩ ?_
    obtain ⟨t12, ht13, hl9⟩ := bind_some hl9
    refine WL.call (some 16) 68 #[(.agg #[(iv (e2.Num)), (iv (e2.Den))]), (pt ga)] (fun fb => by kernel_rfl) (weight_all_1_of_weight_Valid_1_calls e2 ga t12 _ (hS8.rd 1) ht13) (fun v w14 hR15 => ?_)
    obtain ⟨rfl, hk_⟩ := hR15
    have hS16 := hS8.keepN hk_
    refine ⟨trivial, ?_⟩
    refine WL.done rfl (WX.next ?_)
    rcases br_some hl9 with ⟨h17, hl9⟩ | ⟨h17, hl9⟩
    ·refine WC.condT2 (fun fb => by kernel_rfl) h17 ?_
     refine WC.seq (WC.region ?_)
     refine sg 2 [] [4] [(4, (iv x3))] (by kernel_rfl) ?_
     refine WL.done rfl (WX.next ?_)
     refine WC.ret ?_
     injection hl9 with hl9
     subst hl9
     injection hf with hf
     subst hf
     exact WX.blockR (WX.thenR (WX.thenR (WX.blockR (WX.thenR (WX.ret_ [] (iv x3) [] (fun fb => by kernel_rfl) trivial ⟨_, rfl, rfl, hS16.keep⟩)))))
    refine WC.condF2 (fun fb => by kernel_rfl) h17 ?_
    refine WC.skip ?_
    refine WX.blockN (WX.next ?_)
    refine WC.region ?_
    refine sg 2 [] [0, 1, 7, 8] [e3, (1, (.func (.func 68) #[] #[(pt ga)])), e1, (8, (iv (w64 (x3 + 1))))] (by kernel_rfl) ?_
    refine WL.done rfl ?_
    exact WX.again k6 (Nat.lt_succ_self _) (w64 (x3 + 1)) [0, 1, 7, 8] rfl ⟨(hS16.subR [0, 1]).sub [] (by decide), hl9⟩
   refine WC.condF2 (fun fb => by kernel_rfl) h10 ?_
   refine WC.exit ?_
   injection hl9 with hl9
   exact WX.thenX (WX.thenX (WX.blockHere (WX.to Kx4 () [] rfl ⟨(hS8.subR [0, 1]).sub [] (by decide), hl9.symm⟩)))
 rintro y21 w18 ⟨hS19, hq20⟩
 subst hq20
 have hf := sum_inr hf
 refine WX.next (WC.seq (WC.region ?_))
 refine sg 1 [] [4] [(4, (iv (-1)))] (by kernel_rfl) ?_
 refine WL.done rfl (WX.next ?_)
 refine WC.ret ?_
 injection hf with hf
 subst hf
 exact WX.ret_ [] (iv (-1)) [] (fun fb => by kernel_rfl) trivial ⟨_, rfl, rfl, hS19.keep⟩
theorem slices_ContainsFunc_api_Frac_api_Frac_with_weight_all_1_of_weight_Valid_1_calls (k : Nat) (p0 : List Frac) (Aa : Option Addr) (ca : Nat) (ga : Nat) (r : Bool) (w : World) (hR0 : RO NoS w (rowR enc_Frac Aa ca p0)) (hR1 : RO NoS w (blk ga (.cells #[(.func (.func 40) #[] #[])] 65 (0, 0)))) (hf : slices_ContainsFunc_api_Frac_api_Frac_with_weight_all_1_of_weight_Valid_1 k p0 = some r) :
  CallsR Tryz.prog 67 #[(sv Aa p0 ca), (.func (.func 68) #[] #[(pt ga)])] w (fun v w' => v = (bv r) ∧ Keeps NoS w w') := by
 have hS : St NoS w w [rowR enc_Frac Aa ca p0, blk ga (.cells #[(.func (.func 40) #[] #[])] 65 (0, 0))] [] := St.init (ro_cons hR0 (ro_cons hR1 (ro_nil _ _)))
 refine enter 9 Tryz.func67 rfl Tryz.ntmps67 rfl ?_
 unfold slices_ContainsFunc_api_Frac_api_Frac_with_weight_all_1_of_weight_Valid_1 at hf
 refine WC.seq (WC.region ?_)
 refine sg 1 [] [0, 1] [(0, (sv Aa p0 ca)), (1, (.func (.func 68) #[] #[(pt ga)]))] (by kernel_rfl) ?_
 refine WL.done rfl (WX.next (WC.seq (WC.region ?_)))
 refine sg 2 [] [5, 6] [(5, (sv Aa p0 ca)), (6, (.func (.func 68) #[] #[(pt ga)]))] (by kernel_rfl) ?_
 obtain ⟨t2, ht3, hf⟩ := bind_some hf
 refine WL.call (some 7) 88 #[(sv Aa p0 ca), (.func (.func 68) #[] #[(pt ga)])] (fun fb => by kernel_rfl) (slices_IndexFunc_api_Frac_api_Frac_with_weight_all_1_of_weight_Valid_1_calls _ p0 Aa ca ga t2 _ (hS.rd 0) (hS.rd 1) ht3) (fun v w4 hR5 => ?_)
 obtain ⟨rfl, hk_⟩ := hR5
 have hS6 := hS.keepN hk_
 refine ⟨trivial, ?_⟩
 refine sg 5 [] [4] [(4, (bv (decide (t2 ≥ 0))))] (by kernel_rfl) ?_
 refine WL.done rfl (WX.next ?_)
 refine WC.ret ?_
 injection hf with hf
 subst hf
 exact WX.ret_ [] (bv (decide (t2 ≥ 0))) [] (fun fb => by kernel_rfl) trivial ⟨_, rfl, rfl, hS6.keep⟩
theorem weight_all_with_weight_Valid_1_calls (k : Nat) (p0 : List Frac) (Aa : Option Addr) (ca : Nat) (r : Bool) (w : World) (hR0 : RO NoS w (rowR enc_Frac Aa ca p0)) (hf : weight_all_with_weight_Valid_1 k p0 = some r) :
  CallsR Tryz.prog 34 #[(sv Aa p0 ca), (.func (.func 40) #[] #[])] w (fun v w' => v = (bv r) ∧ Keeps NoS w w') := by
 have hS : St NoS w w [rowR enc_Frac Aa ca p0] [] := St.init (ro_cons hR0 (ro_nil _ _))
 refine enter 9 Tryz.func34 rfl Tryz.ntmps34 rfl ?_
 unfold weight_all_with_weight_Valid_1 at hf
 refine WC.seq (WC.region ?_)
 refine WL.new hS 3 [] (fun g => (pt g)) (.cells #[(.func (.func 40) #[] #[])] 65 (0, 0)) [] (fun fb g => by kernel_rfl) trivial (fun g2 w3 hS4 => ?_)
 refine ⟨trivial, ?_⟩
 refine sg 2 [] [0, 3] [(0, (sv Aa p0 ca)), (3, (pt g2))] (by kernel_rfl) ?_
 refine WL.done rfl (WX.next (WC.seq (WC.region ?_)))
 refine sg 2 [] [5, 6] [(5, (sv Aa p0 ca)), (6, (.func (.func 68) #[] #[(pt g2)]))] (by kernel_rfl) ?_
 obtain ⟨t5, ht6, hf⟩ := bind_some hf
 refine WL.call (some 7) 67 #[(sv Aa p0 ca), (.func (.func 68) #[] #[(pt g2)])] (fun fb => by kernel_rfl) (slices_ContainsFunc_api_Frac_api_Frac_with_weight_all_1_of_weight_Valid_1_calls _ p0 Aa ca g2 t5 _ (hS4.rd 0) (hS4.ow 0) ht6) (fun v w7 hR8 => ?_)
 obtain ⟨rfl, hk_⟩ := hR8
 have hS9 := hS4.keepN hk_
 refine ⟨trivial, ?_⟩
 refine sg 5 [] [4] [(4, (bv (!t5)))] (by kernel_rfl) ?_
 refine WL.done rfl (WX.next ?_)
 refine WC.ret ?_
 injection hf with hf
 subst hf
 exact WX.ret_ [] (bv (!t5)) [] (fun fb => by kernel_rfl) trivial ⟨_, rfl, rfl, hS9.keep⟩
theorem weight_Valid_2_calls (p0 : Fraction)  (r : Bool) (w : World)  (hf : weight_Valid_2 p0 = some r) :
  CallsR Tryz.prog 41 #[(.agg #[(iv p0.Num), (iv p0.Den)])] w (fun v w' => v = (bv r) ∧ Keeps NoS w w') := by
 have hS : St NoS w w [] [] := St.init (ro_nil _ _)
 refine enter 6 Tryz.func41 rfl Tryz.ntmps41 rfl ?_
 unfold weight_Valid_2 at hf
 refine WC.seq (WC.region ?_)
 refine WL.new hS 1 [] (fun g => (pt g)) (.cells #[(iv p0.Num), (iv p0.Den)] 63 (0, 0)) [] (fun fb g => by kernel_rfl) trivial (fun g1 w3 hS4 => ?_)
 refine ⟨trivial, ?_⟩
 refine sg 2 [] [1] [(1, (pt g1))] (by kernel_rfl) ?_
 refine WL.done rfl (WX.next (WC.seq (WC.region ?_)))
 refine seg 4 [.v (iv p0.Num)] [2] [(2, (bv (decide (p0.Num > 0))))] [.cell ⟨g1, 0, none⟩ (iv p0.Num)] (fun fb => by kernel_rfl) rfl ⟨hS4.cell 0 rfl 0 rfl, trivial⟩ ?_
 refine WL.done rfl (WX.next ?_)
 refine WC.ret ?_
 injection hf with hf
 subst hf
 exact WX.ret_ [] (bv (decide (p0.Num > 0))) [] (fun fb => by kernel_rfl) trivial ⟨_, rfl, rfl, hS4.keep⟩
theorem weight_all_1_of_weight_Valid_2_calls (p0 : Frac) (ga : Nat) (r : Bool) (w : World) (hR0 : RO NoS w (blk ga (.cells #[(.func (.func 41) #[] #[])] 65 (0, 0)))) (hf : weight_all_1_of_weight_Valid_2 p0 = some r) :
  CallsR Tryz.prog 68 #[(.agg #[(iv p0.Num), (iv p0.Den)]), (pt ga)] w (fun v w' => v = (bv r) ∧ Keeps NoS w w') := by
 have hS : St NoS w w [blk ga (.cells #[(.func (.func 41) #[] #[])] 65 (0, 0))] [] := St.init (ro_cons hR0 (ro_nil _ _))
 refine enter 8 Tryz.func68 rfl Tryz.ntmps68 rfl ?_
 unfold weight_all_1_of_weight_Valid_2 at hf
 refine WC.seq (WC.region ?_)
 refine WL.new hS 2 [] (fun g => (pt g)) (.cells #[(iv p0.Num), (iv p0.Den)] 33 (0, 0)) [] (fun fb g => by kernel_rfl) trivial (fun g3 w4 hS5 => ?_)
 refine ⟨trivial, ?_⟩
 refine sg 2 [] [1, 2] [(1, (pt ga)), (2, (pt g3))] (by kernel_rfl) ?_
 refine WL.done rfl (WX.next (WC.seq (WC.region ?_)))
 refine seg 2 [.v (.func (.func 41) #[] #[]), .v (iv p0.Num), .v (iv p0.Den)] [4, 5] [(4, (.func (.func 41) #[] #[])), (5, (.agg #[(iv p0.Num), (iv p0.Den)]))] [.cell ⟨ga, 0, none⟩ (.func (.func 41) #[] #[]), .cell ⟨g3, 0, none⟩ (iv p0.Num), .cell ⟨g3, 1, none⟩ (iv p0.Den)] (fun fb => by kernel_rfl) rfl ⟨blk_cell (hS5.rd 0).1 0 rfl, hS5.cell 0 rfl 0 rfl, hS5.cell 0 rfl 1 rfl, trivial⟩ ?_
 obtain ⟨t6, ht7, hf⟩ := bind_some hf
 refine WL.call (some 6) 41 #[(.agg #[(iv p0.Num), (iv p0.Den)])] (fun fb => by kernel_rfl) (weight_Valid_2_calls (Fraction.mk p0.Num p0.Den) t6 _ ht7) (fun v w8 hR9 => ?_)
 obtain ⟨rfl, hk_⟩ := hR9
 have hS10 := hS5.keepN hk_
 refine ⟨trivial, ?_⟩
 refine sg 5 [] [3] [(3, (bv (!t6)))] (by kernel_rfl) ?_
 refine WL.done rfl (WX.next ?_)
 refine WC.ret ?_
 injection hf with hf
 subst hf
 exact WX.ret_ [] (bv (!t6)) [] (fun fb => by kernel_rfl) trivial ⟨_, rfl, rfl, hS10.keep⟩
theorem slices_IndexFunc_api_Frac_api_Frac_with_weight_all_1_of_weight_Valid_2_calls (k : Nat) (p0 : List Frac) (Aa : Option Addr) (ca : Nat) (ga : Nat) (r : Int) (w : World) (hR0 : RO NoS w (rowR enc_Frac Aa ca p0)) (hR1 : RO NoS w (blk ga (.cells #[(.func (.func 41) #[] #[])] 65 (0, 0)))) (hf : slices_IndexFunc_api_Frac_api_Frac_with_weight_all_1_of_weight_Valid_2 k p0 = some r) :
  CallsR Tryz.prog 88 #[(sv Aa p0 ca), (.func (.func 68) #[] #[(pt ga)])] w (fun v w' => v = (iv r) ∧ Keeps NoS w w') := by
 have hS : St NoS w w [rowR enc_Frac Aa ca p0, blk ga (.cells #[(.func (.func 41) #[] #[])] 65 (0, 0))] [] := St.init (ro_cons hR0 (ro_cons hR1 (ro_nil _ _)))
 refine enter 19 Tryz.func88 rfl Tryz.ntmps88 rfl ?_
 unfold slices_IndexFunc_api_Frac_api_Frac_with_weight_all_1_of_weight_Valid_2 at hf
 refine WC.seq (WC.region ?_)
 refine sg 1 [] [0, 1] [(0, (sv Aa p0 ca)), (1, (.func (.func 68) #[] #[(pt ga)]))] (by kernel_rfl) ?_
 refine WL.done rfl (WX.next (WC.seq (WC.seq (WC.region ?_))))
 refine sg 3 [] [0, 1, 7, 8] [(0, (sv Aa p0 ca)), (1, (.func (.func 68) #[] #[(pt ga)])), (7, (iv (p0.length : Int))), (8, (iv 0))] (by kernel_rfl) ?_
 refine WL.done rfl (WX.next ?_)
 obtain ⟨x4, hx5, hf⟩ := bind_some hf
 let e1 : Nat × Value := (7, (iv (p0.length : Int)))
 let e3 : Nat × Value := (0, (sv Aa p0 ca))
 refine WC.cutN (T := Unit) (fun t => []) (fun t w1 => St NoS w w1 [rowR enc_Frac Aa ca p0, blk ga (.cells #[(.func (.func 41) #[] #[])] 65 (0, 0))] [] ∧ x4 = .inr t) (fun Kx4 => ?_) ?_
 ·
  refine WC.block ?_
  refine WC.loop (T := Int) (fun t => [e3, (1, (.func (.func 68) #[] #[(pt ga)])), e1, (8, (iv t))]) (fun n t w1 => St NoS w w1 [rowR enc_Frac Aa ca p0, blk ga (.cells #[(.func (.func 41) #[] #[])] 65 (0, 0))] [] ∧ slices_IndexFunc_api_Frac_api_Frac_with_weight_all_1_of_weight_Valid_2.l0 n t p0 = some x4) k 0 [0, 1, 7, 8] rfl ⟨(hS.subR [0, 1]).sub [] (by decide), hx5⟩ ?_
  rintro k6 x3 w7 ⟨hS8, hl9⟩
  let e2 := rdD p0 x3 z_Frac
  cases k6 with
  | zero => rw [slices_IndexFunc_api_Frac_api_Frac_with_weight_all_1_of_weight_Valid_2.l0] at hl9; cases hl9
  | succ k6 =>
   rw [slices_IndexFunc_api_Frac_api_Frac_with_weight_all_1_of_weight_Valid_2.l0] at hl9
   refine WC.seq (WC.region ?_)
   refine sg 1 [] [0, 1, 7, 8, 9] [e3, (1, (.func (.func 68) #[] #[(pt ga)])), e1, (8, (iv x3)), (9, (bv (decide (x3 < (p0.length : Int)))))] (by kernel_rfl) ?_
   refine WL.done rfl (WX.next (WC.seq ?_))
   rcases br_some hl9 with ⟨h10, hl9⟩ | ⟨h10, hl9⟩
   ·refine WC.condT2 (fun fb => by kernel_rfl) h10 ?_
    refine WC.skip (WX.next (WC.seq (WC.block (WC.seq (WC.region ?_)))))
    refine sg 2 [] [0, 1, 5, 7, 8] [e3, (1, (.func (.func 68) #[] #[(pt ga)])), (5, (iv x3)), e1, (8, (iv x3))] (by kernel_rfl) ?_
    refine WL.done rfl (WX.next (WC.seq (WC.region ?_)))
    refine sg 3 [] [0, 1, 5, 7, 8, 11, 12, 13] [e3, (1, (.func (.func 68) #[] #[(pt ga)])), (5, (iv x3)), e1, (8, (iv x3)), (11, (.func (.func 68) #[] #[(pt ga)])), (12, (sv Aa p0 ca)), (13, (iv x3))] (by kernel_rfl) ?_
    obtain ⟨h11, hl9⟩ := as_some hl9
    refine seg 5 [.v (iv (e2.Num)), .v (iv (e2.Den))] [0, 1, 5, 7, 8, 11, 15] [e3, (1, (.func (.func 68) #[] #[(pt ga)])), (5, (iv x3)), e1, (8, (iv x3)), (11, (.func (.func 68) #[] #[(pt ga)])), (15, (.agg #[(iv (e2.Num)), (iv (e2.Den))]))] [.idx Aa x3 p0.length, .cell ((adr Aa).add ((x3).toNat * 2)) (iv (e2.Num)), .cell (((adr Aa).add ((x3).toNat * 2)).add 1) (iv (e2.Den))] (fun fb => by kernel_rfl) rfl ⟨rowR.adr (hS8.rd 0).1 h11.1 h11.2, rowR.cell (hS8.rd 0).1 z_Frac h11.1 h11.2 0 rfl, rowR.cell (hS8.rd 0).1 z_Frac h11.1 h11.2 1 rfl, trivial⟩ ?_
    obtain ⟨t12, ht13, hl9⟩ := bind_some hl9
    refine WL.call (some 16) 68 #[(.agg #[(iv (e2.Num)), (iv (e2.Den))]), (pt ga)] (fun fb => by kernel_rfl) (weight_all_1_of_weight_Valid_2_calls e2 ga t12 _ (hS8.rd 1) ht13) (fun v w14 hR15 => ?_)
    obtain ⟨rfl, hk_⟩ := hR15
    have hS16 := hS8.keepN hk_
    refine ⟨trivial, ?_⟩
    refine WL.done rfl (WX.next ?_)
    rcases br_some hl9 with ⟨h17, hl9⟩ | ⟨h17, hl9⟩
    ·refine WC.condT2 (fun fb => by kernel_rfl) h17 ?_
     refine WC.seq (WC.region ?_)
     refine sg 2 [] [4] [(4, (iv x3))] (by kernel_rfl) ?_
     refine WL.done rfl (WX.next ?_)
     refine WC.ret ?_
     injection hl9 with hl9
     subst hl9
     injection hf with hf
     subst hf
     exact WX.blockR (WX.thenR (WX.thenR (WX.blockR (WX.thenR (WX.ret_ [] (iv x3) [] (fun fb => by kernel_rfl) trivial ⟨_, rfl, rfl, hS16.keep⟩)))))
    refine WC.condF2 (fun fb => by kernel_rfl) h17 ?_
    refine WC.skip ?_
    refine WX.blockN (WX.next ?_)
    refine WC.region ?_
    refine sg 2 [] [0, 1, 7, 8] [e3, (1, (.func (.func 68) #[] #[(pt ga)])), e1, (8, (iv (w64 (x3 + 1))))] (by kernel_rfl) ?_
    refine WL.done rfl ?_
    exact WX.again k6 (Nat.lt_succ_self _) (w64 (x3 + 1)) [0, 1, 7, 8] rfl ⟨(hS16.subR [0, 1]).sub [] (by decide), hl9⟩
   refine WC.condF2 (fun fb => by kernel_rfl) h10 ?_
   refine WC.exit ?_
   injection hl9 with hl9
   exact WX.thenX (WX.thenX (WX.blockHere (WX.to Kx4 () [] rfl ⟨(hS8.subR [0, 1]).sub [] (by decide), hl9.symm⟩)))
 rintro y21 w18 ⟨hS19, hq20⟩
 subst hq20
 have hf := sum_inr hf
 refine WX.next (WC.seq (WC.region ?_))
 refine sg 1 [] [4] [(4, (iv (-1)))] (by kernel_rfl) ?_
 refine WL.done rfl (WX.next ?_)
 refine WC.ret ?_
 injection hf with hf
 subst hf
 exact WX.ret_ [] (iv (-1)) [] (fun fb => by kernel_rfl) trivial ⟨_, rfl, rfl, hS19.keep⟩
theorem slices_ContainsFunc_api_Frac_api_Frac_with_weight_all_1_of_weight_Valid_2_calls (k : Nat) (p0 : List Frac) (Aa : Option Addr) (ca : Nat) (ga : Nat) (r : Bool) (w : World) (hR0 : RO NoS w (rowR enc_Frac Aa ca p0)) (hR1 : RO NoS w (blk ga (.cells #[(.func (.func 41) #[] #[])] 65 (0, 0)))) (hf : slices_ContainsFunc_api_Frac_api_Frac_with_weight_all_1_of_weight_Valid_2 k p0 = some r) :
  CallsR Tryz.prog 67 #[(sv Aa p0 ca), (.func (.func 68) #[] #[(pt ga)])] w (fun v w' => v = (bv r) ∧ Keeps NoS w w') := by
 have hS : St NoS w w [rowR enc_Frac Aa ca p0, blk ga (.cells #[(.func (.func 41) #[] #[])] 65 (0, 0))] [] := St.init (ro_cons hR0 (ro_cons hR1 (ro_nil _ _)))
 refine enter 9 Tryz.func67 rfl Tryz.ntmps67 rfl ?_
 unfold slices_ContainsFunc_api_Frac_api_Frac_with_weight_all_1_of_weight_Valid_2 at hf
 refine WC.seq (WC.region ?_)
 refine sg 1 [] [0, 1] [(0, (sv Aa p0 ca)), (1, (.func (.func 68) #[] #[(pt ga)]))] (by kernel_rfl) ?_
 refine WL.done rfl (WX.next (WC.seq (WC.region ?_)))
 refine sg 2 [] [5, 6] [(5, (sv Aa p0 ca)), (6, (.func (.func 68) #[] #[(pt ga)]))] (by kernel_rfl) ?_
 obtain ⟨t2, ht3, hf⟩ := bind_some hf
 refine WL.call (some 7) 88 #[(sv Aa p0 ca), (.func (.func 68) #[] #[(pt ga)])] (fun fb => by kernel_rfl) (slices_IndexFunc_api_Frac_api_Frac_with_weight_all_1_of_weight_Valid_2_calls _ p0 Aa ca ga t2 _ (hS.rd 0) (hS.rd 1) ht3) (fun v w4 hR5 => ?_)
 obtain ⟨rfl, hk_⟩ := hR5
 have hS6 := hS.keepN hk_
 refine ⟨trivial, ?_⟩
 refine sg 5 [] [4] [(4, (bv (decide (t2 ≥ 0))))] (by kernel_rfl) ?_
 refine WL.done rfl (WX.next ?_)
 refine WC.ret ?_
 injection hf with hf
 subst hf
 exact WX.ret_ [] (bv (decide (t2 ≥ 0))) [] (fun fb => by kernel_rfl) trivial ⟨_, rfl, rfl, hS6.keep⟩
theorem weight_all_with_weight_Valid_2_calls (k : Nat) (p0 : List Frac) (Aa : Option Addr) (ca : Nat) (r : Bool) (w : World) (hR0 : RO NoS w (rowR enc_Frac Aa ca p0)) (hf : weight_all_with_weight_Valid_2 k p0 = some r) :
  CallsR Tryz.prog 34 #[(sv Aa p0 ca), (.func (.func 41) #[] #[])] w (fun v w' => v = (bv r) ∧ Keeps NoS w w') := by
 have hS : St NoS w w [rowR enc_Frac Aa ca p0] [] := St.init (ro_cons hR0 (ro_nil _ _))
 refine enter 9 Tryz.func34 rfl Tryz.ntmps34 rfl ?_
 unfold weight_all_with_weight_Valid_2 at hf
 refine WC.seq (WC.region ?_)
 refine WL.new hS 3 [] (fun g => (pt g)) (.cells #[(.func (.func 41) #[] #[])] 65 (0, 0)) [] (fun fb g => by kernel_rfl) trivial (fun g3 w4 hS5 => ?_)
 refine ⟨trivial, ?_⟩
 refine sg 2 [] [0, 3] [(0, (sv Aa p0 ca)), (3, (pt g3))] (by kernel_rfl) ?_
 refine WL.done rfl (WX.next (WC.seq (WC.region ?_)))
 refine sg 2 [] [5, 6] [(5, (sv Aa p0 ca)), (6, (.func (.func 68) #[] #[(pt g3)]))] (by kernel_rfl) ?_
 obtain ⟨t6, ht7, hf⟩ := bind_some hf
 refine WL.call (some 7) 67 #[(sv Aa p0 ca), (.func (.func 68) #[] #[(pt g3)])] (fun fb => by kernel_rfl) (slices_ContainsFunc_api_Frac_api_Frac_with_weight_all_1_of_weight_Valid_2_calls _ p0 Aa ca g3 t6 _ (hS5.rd 0) (hS5.ow 0) ht7) (fun v w8 hR9 => ?_)
 obtain ⟨rfl, hk_⟩ := hR9
 have hS10 := hS5.keepN hk_
 refine ⟨trivial, ?_⟩
 refine sg 5 [] [4] [(4, (bv (!t6)))] (by kernel_rfl) ?_
 refine WL.done rfl (WX.next ?_)
 refine WC.ret ?_
 injection hf with hf
 subst hf
 exact WX.ret_ [] (bv (!t6)) [] (fun fb => by kernel_rfl) trivial ⟨_, rfl, rfl, hS10.keep⟩
theorem weight_prime_calls (k : Nat) (p0 : Int)  (r : Bool) (w : World)  (hf : weight_prime k p0 = some r) :
  CallsR Tryz.prog 42 #[(iv p0)] w (fun v w' => v = (bv r) ∧ Keeps NoS w w') := by
 have hS : St NoS w w [] [] := St.init (ro_nil _ _)
 refine enter 17 Tryz.func42 rfl Tryz.ntmps42 rfl ?_
 unfold weight_prime at hf
 refine WC.seq (WC.region ?_)
 refine sg 1 [] [0] [(0, (iv p0))] (by kernel_rfl) ?_
 refine WL.done rfl (WX.next (WC.seq (WC.seq (WC.region ?_))))
 refine sg 1 [] [0, 3] [(0, (iv p0)), (3, (iv 2))] (by kernel_rfl) ?_
 refine WL.done rfl (WX.next ?_)
 obtain ⟨x4, hx5, hf⟩ := bind_some hf
 refine WC.cutN (T := Unit) (fun t => [(0, (iv p0))]) (fun t w1 => St NoS w w1 [] [] ∧ x4 = .inr t) (fun Kx4 => ?_) ?_
 ·
  refine WC.block ?_
  refine WC.loop (T := Int) (fun t => [(0, (iv p0)), (3, (iv t))]) (fun n t w1 => St NoS w w1 [] [] ∧ weight_prime.l0 n t p0 = some x4) k 2 [0, 3] rfl ⟨(hS.subR []).sub [] (by decide), hx5⟩ ?_
  rintro k6 x3 w7 ⟨hS8, hl9⟩
  cases k6 with
  | zero => rw [weight_prime.l0] at hl9; cases hl9
  | succ k6 =>
   rw [weight_prime.l0] at hl9
   refine WC.seq (WC.seq (WC.region ?_))
   refine sg 5 [] [0, 3, 8] [(0, (iv p0)), (3, (iv x3)), (8, (bv (decide (w64 (x3 * x3) ≤ p0))))] (by kernel_rfl) ?_
   refine WL.done rfl (WX.next ?_)
   rcases br_some hl9 with ⟨h10, hl9⟩ | ⟨h10, hl9⟩
   ·refine WC.condT2 (fun fb => by kernel_rfl) h10 ?_
    refine WC.skip (WX.next (WC.seq (WC.block (WC.seq (WC.region ?_)))))
    refine sg 2 [] [0, 3, 11, 12] [(0, (iv p0)), (3, (iv x3)), (11, (iv p0)), (12, (iv x3))] (by kernel_rfl) ?_
    obtain ⟨h11, hl9⟩ := as_some hl9
    refine seg 4 [] [0, 3, 14] [(0, (iv p0)), (3, (iv x3)), (14, (bv ((Int.tmod p0 x3) == 0)))] [.ne x3] (fun fb => by kernel_rfl) rfl ⟨h11, trivial⟩ ?_
    refine WL.done rfl (WX.next ?_)
    rcases br_some hl9 with ⟨h12, hl9⟩ | ⟨h12, hl9⟩
    ·refine WC.condT2 (fun fb => by kernel_rfl) h12 ?_
     refine WC.seq (WC.region ?_)
     refine sg 1 [] [2] [(2, (bv false))] (by kernel_rfl) ?_
     refine WL.done rfl (WX.next ?_)
     refine WC.ret ?_
     injection hl9 with hl9
     subst hl9
     injection hf with hf
     subst hf
     exact WX.blockR (WX.thenR (WX.thenR (WX.blockR (WX.thenR (WX.ret_ [] (bv false) [] (fun fb => by kernel_rfl) trivial ⟨_, rfl, rfl, hS8.keep⟩)))))
    refine WC.condF2 (fun fb => by kernel_rfl) h12 ?_
    refine WC.skip ?_
    refine WX.blockN (WX.next ?_)
    refine WC.region ?_
    refine sg 3 [] [0, 3] [(0, (iv p0)), (3, (iv (w64 (x3 + 1))))] (by kernel_rfl) ?_
    refine WL.done rfl ?_
    exact WX.again k6 (Nat.lt_succ_self _) (w64 (x3 + 1)) [0, 3] rfl ⟨(hS8.subR []).sub [] (by decide), hl9⟩
   refine WC.condF2 (fun fb => by kernel_rfl) h10 ?_
   refine WC.exit ?_
   injection hl9 with hl9
   exact WX.thenX (WX.thenX (WX.blockHere (WX.to Kx4 () [0] rfl ⟨(hS8.subR []).sub [] (by decide), hl9.symm⟩)))
 rintro y16 w13 ⟨hS14, hq15⟩
 subst hq15
 have hf := sum_inr hf
 refine WX.next (WC.seq (WC.region ?_))
 refine sg 3 [] [2] [(2, (bv (decide (p0 ≥ 2))))] (by kernel_rfl) ?_
 refine WL.done rfl (WX.next ?_)
 refine WC.ret ?_
 injection hf with hf
 subst hf
 exact WX.ret_ [] (bv (decide (p0 ≥ 2))) [] (fun fb => by kernel_rfl) trivial ⟨_, rfl, rfl, hS14.keep⟩
theorem slices_Index_int_int_calls (k : Nat) (p0 : List Int) (p1 : Int) (Aa : Option Addr) (ca : Nat) (r : Int) (w : World) (hR0 : RO NoS w (rowR encInt Aa ca p0)) (hf : slices_Index_int_int k p0 p1 = some r) :
  CallsR Tryz.prog 70 #[(sv Aa p0 ca), (iv p1)] w (fun v w' => v = (iv r) ∧ Keeps NoS w w') := by
 have hS : St NoS w w [rowR encInt Aa ca p0] [] := St.init (ro_cons hR0 (ro_nil _ _))
 refine enter 19 Tryz.func70 rfl Tryz.ntmps70 rfl ?_
 unfold slices_Index_int_int at hf
 refine WC.seq (WC.region ?_)
 refine sg 1 [] [0, 1] [(0, (sv Aa p0 ca)), (1, (iv p1))] (by kernel_rfl) ?_
 refine WL.done rfl (WX.next (WC.seq (WC.seq (WC.region ?_))))
 refine sg 3 [] [0, 1, 7, 8] [(0, (sv Aa p0 ca)), (1, (iv p1)), (7, (iv (p0.length : Int))), (8, (iv 0))] (by kernel_rfl) ?_
 refine WL.done rfl (WX.next ?_)
 obtain ⟨x4, hx5, hf⟩ := bind_some hf
 let e1 : Nat × Value := (7, (iv (p0.length : Int)))
 let e2 : Nat × Value := (0, (sv Aa p0 ca))
 refine WC.cutN (T := Unit) (fun t => []) (fun t w1 => St NoS w w1 [rowR encInt Aa ca p0] [] ∧ x4 = .inr t) (fun Kx4 => ?_) ?_
 ·
  refine WC.block ?_
  refine WC.loop (T := Int) (fun t => [e2, (1, (iv p1)), e1, (8, (iv t))]) (fun n t w1 => St NoS w w1 [rowR encInt Aa ca p0] [] ∧ slices_Index_int_int.l0 n t p0 p1 = some x4) k 0 [0, 1, 7, 8] rfl ⟨(hS.subR [0]).sub [] (by decide), hx5⟩ ?_
  rintro k6 x3 w7 ⟨hS8, hl9⟩
  cases k6 with
  | zero => rw [slices_Index_int_int.l0] at hl9; cases hl9
  | succ k6 =>
   rw [slices_Index_int_int.l0] at hl9
   refine WC.seq (WC.region ?_)
   refine sg 1 [] [0, 1, 7, 8, 9] [e2, (1, (iv p1)), e1, (8, (iv x3)), (9, (bv (decide (x3 < (p0.length : Int)))))] (by kernel_rfl) ?_
   refine WL.done rfl (WX.next (WC.seq ?_))
   rcases br_some hl9 with ⟨h10, hl9⟩ | ⟨h10, hl9⟩
   ·refine WC.condT2 (fun fb => by kernel_rfl) h10 ?_
    refine WC.skip (WX.next (WC.seq (WC.block (WC.seq (WC.region ?_)))))
    refine sg 2 [] [0, 1, 5, 7, 8] [e2, (1, (iv p1)), (5, (iv x3)), e1, (8, (iv x3))] (by kernel_rfl) ?_
    refine WL.done rfl (WX.next (WC.seq (WC.region ?_)))
    refine sg 3 [] [0, 1, 5, 7, 8, 11, 12, 13] [e2, (1, (iv p1)), (5, (iv x3)), e1, (8, (iv x3)), (11, (iv p1)), (12, (sv Aa p0 ca)), (13, (iv x3))] (by kernel_rfl) ?_
    obtain ⟨h11, hl9⟩ := as_some hl9
    refine seg 6 [.v (iv (rdD p0 x3 0))] [0, 1, 5, 7, 8, 16] [e2, (1, (iv p1)), (5, (iv x3)), e1, (8, (iv x3)), (16, (bv (p1 == (rdD p0 x3 0))))] [.idx Aa x3 p0.length, .cell ((adr Aa).add ((x3).toNat * 1)) (iv (rdD p0 x3 0))] (fun fb => by kernel_rfl) rfl ⟨rowR.adr (hS8.rd 0).1 h11.1 h11.2, rowR.cell (hS8.rd 0).1 0 h11.1 h11.2 0 rfl, trivial⟩ ?_
    refine WL.done rfl (WX.next ?_)
    rcases br_some hl9 with ⟨h12, hl9⟩ | ⟨h12, hl9⟩
    ·refine WC.condT2 (fun fb => by kernel_rfl) h12 ?_
     refine WC.seq (WC.region ?_)
     refine sg 2 [] [4] [(4, (iv x3))] (by kernel_rfl) ?_
     refine WL.done rfl (WX.next ?_)
     refine WC.ret ?_
     injection hl9 with hl9
     subst hl9
     injection hf with hf
     subst hf
     exact WX.blockR (WX.thenR (WX.thenR (WX.blockR (WX.thenR (WX.ret_ [] (iv x3) [] (fun fb => by kernel_rfl) trivial ⟨_, rfl, rfl, hS8.keep⟩)))))
    refine WC.condF2 (fun fb => by kernel_rfl) h12 ?_
    refine WC.skip ?_
    refine WX.blockN (WX.next ?_)
    refine WC.region ?_
    refine sg 2 [] [0, 1, 7, 8] [e2, (1, (iv p1)), e1, (8, (iv (w64 (x3 + 1))))] (by kernel_rfl) ?_
    refine WL.done rfl ?_
    exact WX.again k6 (Nat.lt_succ_self _) (w64 (x3 + 1)) [0, 1, 7, 8] rfl ⟨(hS8.subR [0]).sub [] (by decide), hl9⟩
   refine WC.condF2 (fun fb => by kernel_rfl) h10 ?_
   refine WC.exit ?_
   injection hl9 with hl9
   exact WX.thenX (WX.thenX (WX.blockHere (WX.to Kx4 () [] rfl ⟨(hS8.subR [0]).sub [] (by decide), hl9.symm⟩)))
 rintro y16 w13 ⟨hS14, hq15⟩
 subst hq15
 have hf := sum_inr hf
 refine WX.next (WC.seq (WC.region ?_))
 refine sg 1 [] [4] [(4, (iv (-1)))] (by kernel_rfl) ?_
 refine WL.done rfl (WX.next ?_)
 refine WC.ret ?_
 injection hf with hf
 subst hf
 exact WX.ret_ [] (iv (-1)) [] (fun fb => by kernel_rfl) trivial ⟨_, rfl, rfl, hS14.keep⟩
theorem slices_Contains_int_int_calls (k : Nat) (p0 : List Int) (p1 : Int) (Aa : Option Addr) (ca : Nat) (r : Bool) (w : World) (hR0 : RO NoS w (rowR encInt Aa ca p0)) (hf : slices_Contains_int_int k p0 p1 = some r) :
  CallsR Tryz.prog 43 #[(sv Aa p0 ca), (iv p1)] w (fun v w' => v = (bv r) ∧ Keeps NoS w w') := by
 have hS : St NoS w w [rowR encInt Aa ca p0] [] := St.init (ro_cons hR0 (ro_nil _ _))
 refine enter 9 Tryz.func43 rfl Tryz.ntmps43 rfl ?_
 unfold slices_Contains_int_int at hf
 refine WC.seq (WC.region ?_)
 refine sg 1 [] [0, 1] [(0, (sv Aa p0 ca)), (1, (iv p1))] (by kernel_rfl) ?_
 refine WL.done rfl (WX.next (WC.seq (WC.region ?_)))
 refine sg 2 [] [5, 6] [(5, (sv Aa p0 ca)), (6, (iv p1))] (by kernel_rfl) ?_
 obtain ⟨t2, ht3, hf⟩ := bind_some hf
 refine WL.call (some 7) 70 #[(sv Aa p0 ca), (iv p1)] (fun fb => by kernel_rfl) (slices_Index_int_int_calls _ p0 p1 Aa ca t2 _ (hS.rd 0) ht3) (fun v w4 hR5 => ?_)
 obtain ⟨rfl, hk_⟩ := hR5
 have hS6 := hS.keepN hk_
 refine ⟨trivial, ?_⟩
 refine sg 5 [] [4] [(4, (bv (decide (t2 ≥ 0))))] (by kernel_rfl) ?_
 refine WL.done rfl (WX.next ?_)
 refine WC.ret ?_
 injection hf with hf
 subst hf
 exact WX.ret_ [] (bv (decide (t2 ≥ 0))) [] (fun fb => by kernel_rfl) trivial ⟨_, rfl, rfl, hS6.keep⟩
end Gp
