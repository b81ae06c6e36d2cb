/- Walks: each function of the program computes its plain function. -/
import Derived.Test.YtfehljifahnipaaGreatDoorGx4
set_option linter.unusedVariables false
set_option linter.unusedSimpArgs false
set_option maxHeartbeats 4000000
set_option maxRecDepth 8000
namespace Gp
open Go Gw Go.Proofs
theorem ref06_Of_calls (k : Nat) (p0 : List Tile) (p1 : Weights) (p2 : List Int) (Aa : Option Addr) (ca : Nat) (Ab : Option Addr) (cb : Nat) (Ac : Option Addr) (cc : Nat) (Ad : Option Addr) (cd : Nat) (Ae : Option Addr) (ce : Nat) (Af : Option Addr) (cf : Nat) (Ag : Option Addr) (cg : Nat) (r : (List Frac)) (w : World) (hR0 : RO NoS w (rowR enc_Tile Aa ca p0)) (hR1 : RO NoS w (rowR enc_Frac Ab cb p1.Values)) (hR2 : RO NoS w (rowR enc_Frac Ac cc p1.Carries)) (hR3 : RO NoS w (rowR enc_Frac Ad cd p1.Factors)) (hR4 : RO NoS w (rowR encInt Ae ce p1.Primes)) (hR5 : RO NoS w (rowR encInt Af cf p1.Logs)) (hR6 : RO NoS w (rowR encInt Ag cg p2)) (hf : ref06_Of k p0 p1 p2 = some r) :
  CallsR Tryz.prog 17 #[(sv Aa p0 ca), (.agg #[(sv Ab p1.Values cb), (sv Ac p1.Carries cc), (sv Ad p1.Factors cd), (sv Ae p1.Primes ce), (sv Af p1.Logs cf)]), (sv Ag p2 cg)] w (fun v w' => ∃ (A1_ : Option Addr), ∃ (c1_ : Nat), v = (sv A1_ r c1_) ∧ St NoS w w' [] [rowO 33 enc_Frac A1_ c1_ r]) := by
 have hS : St NoS w w [rowR enc_Tile Aa ca p0, rowR enc_Frac Ab cb p1.Values, rowR enc_Frac Ac cc p1.Carries, rowR enc_Frac Ad cd p1.Factors, rowR encInt Ae ce p1.Primes, rowR encInt Af cf p1.Logs, rowR encInt Ag cg p2] [] := St.init (ro_cons hR0 (ro_cons hR1 (ro_cons hR2 (ro_cons hR3 (ro_cons hR4 (ro_cons hR5 (ro_cons hR6 (ro_nil _ _))))))))
 refine enter 43 Tryz.func17 rfl Tryz.ntmps17 rfl ?_
 unfold ref06_Of at hf
 refine WC.seq (WC.region ?_)
 refine WL.new hS 4 [] (fun g => (pt g)) (.cells #[(sv Ab p1.Values cb), (sv Ac p1.Carries cc), (sv Ad p1.Factors cd), (sv Ae p1.Primes ce), (sv Af p1.Logs cf)] 26 (0, 0)) [] (fun fb g => by kernel_rfl) trivial (fun g7 w8 hS9 => ?_)
 refine ⟨trivial, ?_⟩
 refine sg 2 [] [0, 2, 4] [(0, (sv Aa p0 ca)), (2, (sv Ag p2 cg)), (4, (pt g7))] (by kernel_rfl) ?_
 refine WL.done rfl (WX.next (WC.seq (WC.region ?_)))
 refine sg 1 [] [0, 2, 4, 7] [(0, (sv Aa p0 ca)), (2, (sv Ag p2 cg)), (4, (pt g7)), (7, (.slice none 0 0))] (by kernel_rfl) ?_
 refine WL.done rfl (WX.next (WC.seq (WC.seq (WC.region ?_))))
 refine sg 1 [] [0, 2, 4, 7, 8] [(0, (sv Aa p0 ca)), (2, (sv Ag p2 cg)), (4, (pt g7)), (7, (.slice none 0 0)), (8, (iv 0))] (by kernel_rfl) ?_
 refine WL.done rfl (WX.next ?_)
 have hS10 := hS9.nilrow 33 enc_Frac
 obtain ⟨x18, hx19, hf⟩ := bind_some hf
 let e5 : List Own := [rowR enc_Tile Aa ca p0, rowR enc_Frac Ab cb p1.Values, rowR enc_Frac Ac cc p1.Carries, rowR enc_Frac Ad cd p1.Factors, rowR encInt Ae ce p1.Primes, rowR encInt Af cf p1.Logs, rowR encInt Ag cg p2]
 let e6 : Array Value := #[(sv Ab p1.Values cb), (sv Ac p1.Carries cc), (sv Ad p1.Factors cd), (sv Ae p1.Primes ce), (sv Af p1.Logs cf)]
 let e7 : Nat × Value := (0, (sv Aa p0 ca))
 let e8 : Nat × Value := (2, (sv Ag p2 cg))
 let e9 := sv Ab p1.Values cb
 refine WC.cutN (T := (List Frac) × (Option Addr) × Nat) (fun t => [(7, (sv t.2.1 t.1 t.2.2))]) (fun t w1 => St NoS w w1 e5 [rowO 33 enc_Frac t.2.1 t.2.2 t.1] ∧ x18 = t.1) (fun Kx18 => ?_) ?_
 ·
  refine WC.block ?_
  refine WC.loop (T := ((List Frac) × Int) × (Option Addr) × Nat) (fun t => [e7, e8, (4, (pt g7)), (7, (sv t.2.1 t.1.1 t.2.2)), (8, (iv t.1.2))]) (fun n t w1 => St NoS w w1 e5 [blk g7 (.cells e6 26 (0, 0)), rowO 33 enc_Frac t.2.1 t.2.2 t.1.1] ∧ ref06_Of.l0 n t.1.1 t.1.2 p0 p1 p2 = some x18) k ((([] : List Frac), 0), none, 0) [0, 2, 4, 7, 8] rfl ⟨(hS10.subR [0, 1, 2, 3, 4, 5, 6]).sub [1, 0] (by decide), hx19⟩ ?_
  rintro k20 ⟨⟨l13, x14⟩, A11, c12⟩ w21 ⟨hS22, hl23⟩
  let e1 := rdD p0 (rdD p2 x14 0) z_Tile
  let e2 : List (Nat × Addr × Value) := [(2, ⟨g7, 0, none⟩, e9), (7, ((adr Ag).add ((x14).toNat * 1)), (iv (rdD p2 x14 0))), (10, (((adr Aa).add (((rdD p2 x14 0)).toNat * 4)).add 2), (iv (e1.S))), (12, ((adr Ab).add ((e1.S).toNat * 2)), (iv ((rdD p1.Values (e1.S) z_Frac).Num))), (12, (((adr Ab).add ((e1.S).toNat * 2)).add 1), (iv ((rdD p1.Values (e1.S) z_Frac).Den))), (14, ⟨g7, 0, none⟩, e9), (19, ((adr Ag).add ((x14).toNat * 1)), (iv (rdD p2 x14 0))), (22, ((adr Aa).add (((rdD p2 x14 0)).toNat * 4)), (iv (e1.N))), (24, ((adr Ab).add ((e1.N).toNat * 2)), (iv ((rdD p1.Values (e1.N) z_Frac).Num))), (24, (((adr Ab).add ((e1.N).toNat * 2)).add 1), (iv ((rdD p1.Values (e1.N) z_Frac).Den)))]
  let e3 := rdD p1.Values (e1.S) z_Frac
  let e4 := rdD p1.Values (e1.N) z_Frac
  cases k20 with
  | zero => rw [ref06_Of.l0] at hl23; cases hl23
  | succ k20 =>
   rw [ref06_Of.l0] at hl23
   refine WC.seq (WC.seq (WC.region ?_))
   refine sg 4 [] [0, 2, 4, 7, 8, 12] [e7, e8, (4, (pt g7)), (7, (sv A11 l13 c12)), (8, (iv x14)), (12, (bv (decide (x14 < (p2.length : Int)))))] (by kernel_rfl) ?_
   refine WL.done rfl (WX.next ?_)
   rcases br_some hl23 with ⟨h24, hl23⟩ | ⟨h24, hl23⟩
   ·refine WC.condT2 (fun fb => by kernel_rfl) h24 ?_
    refine WC.skip (WX.next (WC.seq (WC.block ?_)))
    obtain ⟨h27, hl23⟩ := as_some hl23
    obtain ⟨h28, hl23⟩ := as_some hl23
    obtain ⟨h29, hl23⟩ := as_some hl23
    obtain ⟨h30, hl23⟩ := as_some hl23
    refine WC.regionD (e2, [0, 1, 2, 3, 4, 5, 6, 7, 8, 9, 10, 11, 12, 13, 14, 15, 16, 17, 18, 19, 20, 21, 22, 23, 24, 27], [[], [], [1], [], [], [], [4, 5], [4, 5, 6], [3, 4, 5, 6, 7], [3, 4, 5, 6, 7, 8], [3, 4, 5, 6, 7, 8, 9], [1, 2, 3, 4, 5, 6, 7, 8, 9, 10], [1, 2, 3, 4, 5, 6, 7, 8, 9, 10, 11], [], [13], [], [], [], [16, 17], [16, 17, 18], [15, 16, 17, 18, 19], [15, 16, 17, 18, 19, 20], [15, 16, 17, 18, 19, 20, 21], [13, 14, 15, 16, 17, 18, 19, 20, 21, 22], [13, 14, 15, 16, 17, 18, 19, 20, 21, 22, 23], [1, 2, 3, 4, 5, 6, 7, 8, 9, 10, 11, 12, 13, 14, 15, 16, 17, 18, 19, 20, 21, 22, 23, 24], [0, 1, 2, 3, 4, 5, 6, 7, 8, 9, 10, 11, 12, 13, 14, 15, 16, 17, 18, 19, 20, 21, 22, 23, 24, 25], [0, 1, 2, 3, 4, 5, 6, 7, 8, 9, 10, 11, 12, 13, 14, 15, 16, 17, 18, 19, 20, 21, 22, 23, 24, 25, 26]]) [[0, 1, 2, 3, 4, 5, 6, 7, 8, 9, 10, 11, 12, 13, 14, 15, 16, 17, 18, 19, 20, 21, 22, 23, 24, 25, 26, 27]] (by kernel_rfl) (by kernel_rfl) (NoPanic.block (NoPanic.seq (NoPanic.seq (NoPanic.block (NoPanic.seq (NoPanic.body)))))) ?_
    have hS26 := hS22.drew
    revert hS26
    generalize World.drew w21 = w25
    intro hS26
    refine ⟨⟨hS26.cell 0 rfl 0 rfl, rowR.cell (hS26.rd 6).1 0 h27.1 h27.2 0 rfl, rowR.cell (hS26.rd 0).1 z_Tile h28.1 h28.2 2 rfl, rowR.cell (hS26.rd 1).1 z_Frac h29.1 h29.2 0 rfl, rowR.cell (hS26.rd 1).1 z_Frac h29.1 h29.2 1 rfl, hS26.cell 0 rfl 0 rfl, rowR.cell (hS26.rd 6).1 0 h27.1 h27.2 0 rfl, rowR.cell (hS26.rd 0).1 z_Tile h28.1 h28.2 0 rfl, rowR.cell (hS26.rd 1).1 z_Frac h30.1 h30.2 0 rfl, rowR.cell (hS26.rd 1).1 z_Frac h30.1 h30.2 1 rfl, trivial⟩, forallC ?_ (forallN)⟩
    refine segF 25 [.v e9, .v (iv (rdD p2 x14 0)), .v (iv (e1.S)), .v (iv (e3.Num)), .v (iv (e3.Den)), .v e9, .v (iv (rdD p2 x14 0)), .v (iv (e1.N)), .v (iv (e4.Num)), .v (iv (e4.Den))] [0, 2, 4, 8, 15, 27, 39] [e7, e8, (4, (pt g7)), (8, (iv x14)), (15, (sv A11 l13 c12)), (27, (.agg #[(iv (e3.Num)), (iv (e3.Den))])), (39, (.agg #[(iv (e4.Num)), (iv (e4.Den))]))] [.idx Ag x14 p2.length, .idx Aa (rdD p2 x14 0) p0.length, .idx Ab (e1.S) p1.Values.length, .idx Ag x14 p2.length, .idx Aa (rdD p2 x14 0) p0.length, .idx Ab (e1.N) p1.Values.length] [0, 1, 2, 3, 4, 5, 6, 7, 8, 9] e2 (fun fb => by kernel_rfl) rfl ⟨rowR.adr (hS26.rd 6).1 h27.1 h27.2, rowR.adr (hS26.rd 0).1 h28.1 h28.2, rowR.adr (hS26.rd 1).1 h29.1 h29.2, rowR.adr (hS26.rd 6).1 h27.1 h27.2, rowR.adr (hS26.rd 0).1 h28.1 h28.2, rowR.adr (hS26.rd 1).1 h30.1 h30.2, trivial⟩ rfl ?_
    refine WL.new hS26 40 [] (fun g => (.slice (some ⟨g, 0, none⟩) 2 2)) (.cells #[(iv (e3.Num)), (iv (e3.Den)), (iv (e4.Num)), (iv (e4.Den))] 33 (0, 0)) [] (fun fb g => by kernel_rfl) trivial (fun g31 w32 hS33 => ?_)
    refine ⟨trivial, ?_⟩
    have hS34 := hS.go w32 [rowO 33 enc_Frac (some ⟨g31, 0, none⟩) 2 [e3, e4], blk g7 (.cells e6 26 (0, 0)), rowO 33 enc_Frac A11 c12 l13] (hS33.map1 0 _ (fun h => rowO.ofBlk h rfl (Nat.le_of_ble_eq_true (by kernel_rfl))) (fun _ h => by obtain ⟨_, h1, h2⟩ := h; injection h1 with h1; subst h1; exact h2) [1, 2] (by decide) (by decide))
    obtain ⟨h35, hl23⟩ := as_some hl23
    refine WL.append hS34 2 (d := 41) (tS := 23) (z := (.agg #[(iv 0), (iv 0)])) (bytes := 16) (c2 := 2) rfl (fun fb => by kernel_rfl) (rowO.rd (hS34.own 0).1) (by kernel_rfl) (by kernel_rfl) rfl (by decide) h35 (by decide) [0, 1] (by decide) (by decide) (fun A36 c37 w38 hS39 => ?_)
    refine ⟨trivial, ?_⟩
    refine sg 28 [] [0, 2, 4, 7, 8] [e7, e8, (4, (pt g7)), (7, (sv A36 (l13 ++ [e3, e4]) c37)), (8, (iv x14))] (by kernel_rfl) ?_
    refine WL.done rfl ?_
    refine WX.blockN (WX.next ?_)
    refine WC.region ?_
    refine sg 3 [] [0, 2, 4, 7, 8] [e7, e8, (4, (pt g7)), (7, (sv A36 (l13 ++ [e3, e4]) c37)), (8, (iv (w64 (x14 + 1))))] (by kernel_rfl) ?_
    refine WL.done rfl ?_
    exact WX.again k20 (Nat.lt_succ_self _) ((l13 ++ [e3, e4], w64 (x14 + 1)), A36, c37) [0, 2, 4, 7, 8] rfl ⟨(hS39.subR [0, 1, 2, 3, 4, 5, 6]).sub [2, 0] (by decide), hl23⟩
   refine WC.condF2 (fun fb => by kernel_rfl) h24 ?_
   refine WC.exit ?_
   injection hl23 with hl23
   exact WX.thenX (WX.thenX (WX.blockHere (WX.to Kx18 (l13, A11, c12) [7] rfl ⟨(hS22.subR [0, 1, 2, 3, 4, 5, 6]).sub [1] (by decide), hl23.symm⟩)))
 rintro ⟨y43, A15, c16⟩ w40 ⟨hS41, hq42⟩
 subst hq42
 refine WX.next (WC.seq (WC.region ?_))
 refine sg 2 [] [6] [(6, (sv A15 x18 c16))] (by kernel_rfl) ?_
 refine WL.done rfl (WX.next ?_)
 refine WC.ret ?_
 injection hf with hf
 subst hf
 exact WX.ret_ [] (sv A15 x18 c16) [] (fun fb => by kernel_rfl) trivial ⟨_, rfl, A15, c16, rfl, (hS41.sub [0] (by decide)).noR⟩
theorem ref06_Fits_calls (p0 : Frac)  (r : Bool) (w : World)  (hf : ref06_Fits p0 = some r) :
  CallsR Tryz.prog 18 #[(.agg #[(iv p0.Num), (iv p0.Den)])] w (fun v w' => v = (bv r) ∧ Keeps NoS w w') := by
 have hS : St NoS w w [] [] := St.init (ro_nil _ _)
 refine enter 5 Tryz.func18 rfl Tryz.ntmps18 rfl ?_
 unfold ref06_Fits at hf
 refine WC.seq (WC.region ?_)
 refine WL.new hS 1 [] (fun g => (pt g)) (.cells #[(iv p0.Num), (iv p0.Den)] 33 (0, 0)) [] (fun fb g => by kernel_rfl) trivial (fun g1 w2 hS3 => ?_)
 refine ⟨trivial, ?_⟩
 refine sg 2 [] [1] [(1, (pt g1))] (by kernel_rfl) ?_
 refine WL.done rfl (WX.next (WC.seq (WC.region ?_)))
 refine seg 1 [.v (iv p0.Num), .v (iv p0.Den)] [3] [(3, (.agg #[(iv p0.Num), (iv p0.Den)]))] [.cell ⟨g1, 0, none⟩ (iv p0.Num), .cell ⟨g1, 1, none⟩ (iv p0.Den)] (fun fb => by kernel_rfl) rfl ⟨hS3.cell 0 rfl 0 rfl, hS3.cell 0 rfl 1 rfl, trivial⟩ ?_
 obtain ⟨t4, ht5, hf⟩ := bind_some hf
 refine WL.call (some 4) 53 #[(.agg #[(iv p0.Num), (iv p0.Den)])] (fun fb => by kernel_rfl) (ref06_valid_calls p0 t4 _ ht5) (fun v w7 hR8 => ?_)
 obtain ⟨rfl, hk_⟩ := hR8
 have hS9 := hS3.keepN hk_
 refine ⟨trivial, ?_⟩
 refine sg 3 [] [2] [(2, (bv t4))] (by kernel_rfl) ?_
 refine WL.done rfl (WX.next ?_)
 refine WC.ret ?_
 injection hf with hf
 subst hf
 exact WX.ret_ [] (bv t4) [] (fun fb => by kernel_rfl) trivial ⟨_, rfl, rfl, hS9.keep⟩
theorem ref06_Sum_calls (k : Nat) (p0 : List Tile) (p1 : Weights) (p2 : List Int) (p3 : Bool) (p4 : Int) (Aa : Option Addr) (ca : Nat) (Ab : Option Addr) (cb : Nat) (Ac : Option Addr) (cc : Nat) (Ad : Option Addr) (cd : Nat) (Ae : Option Addr) (ce : Nat) (Af : Option Addr) (cf : Nat) (Ag : Option Addr) (cg : Nat) (r : Frac) (w : World) (hR0 : RO NoS w (rowR enc_Tile Aa ca p0)) (hR1 : RO NoS w (rowR enc_Frac Ab cb p1.Values)) (hR2 : RO NoS w (rowR enc_Frac Ac cc p1.Carries)) (hR3 : RO NoS w (rowR enc_Frac Ad cd p1.Factors)) (hR4 : RO NoS w (rowR encInt Ae ce p1.Primes)) (hR5 : RO NoS w (rowR encInt Af cf p1.Logs)) (hR6 : RO NoS w (rowR encInt Ag cg p2)) (hf : ref06_Sum k p0 p1 p2 p3 p4 = some r) :
  CallsR Tryz.prog 19 #[(sv Aa p0 ca), (.agg #[(sv Ab p1.Values cb), (sv Ac p1.Carries cc), (sv Ad p1.Factors cd), (sv Ae p1.Primes ce), (sv Af p1.Logs cf)]), (sv Ag p2 cg), (bv p3), (iv p4)] w (fun v w' => v = (.agg #[(iv r.Num), (iv r.Den)]) ∧ Keeps NoS w w') := by
 have hS : St NoS w w [rowR enc_Tile Aa ca p0, rowR enc_Frac Ab cb p1.Values, rowR enc_Frac Ac cc p1.Carries, rowR enc_Frac Ad cd p1.Factors, rowR encInt Ae ce p1.Primes, rowR encInt Af cf p1.Logs, rowR encInt Ag cg p2] [] := St.init (ro_cons hR0 (ro_cons hR1 (ro_cons hR2 (ro_cons hR3 (ro_cons hR4 (ro_cons hR5 (ro_cons hR6 (ro_nil _ _))))))))
 refine enter 63 Tryz.func19 rfl Tryz.ntmps19 rfl ?_
 unfold ref06_Sum at hf
 refine WC.seq (WC.region ?_)
 refine WL.new hS 6 [] (fun g => (pt g)) (.cells #[(sv Ab p1.Values cb), (sv Ac p1.Carries cc), (sv Ad p1.Factors cd), (sv Ae p1.Primes ce), (sv Af p1.Logs cf)] 26 (0, 0)) [] (fun fb g => by kernel_rfl) trivial (fun g7 w8 hS9 => ?_)
 refine ⟨trivial, ?_⟩
 refine WL.new hS9 10 [] (fun g => (pt g)) (.cells #[(iv 0), (iv 0)] 33 (0, 0)) [] (fun fb g => by kernel_rfl) trivial (fun g10 w11 hS12 => ?_)
 refine ⟨trivial, ?_⟩
 refine WL.done rfl (WX.next (WC.seq (WC.region ?_)))
 refine sg 1 [] [0, 2, 3, 4, 6, 10, 11] [(0, (sv Aa p0 ca)), (2, (sv Ag p2 cg)), (3, (bv p3)), (4, (iv p4)), (6, (pt g7)), (10, (pt g10)), (11, (iv 0))] (by kernel_rfl) ?_
 refine WL.done rfl (WX.next (WC.seq (WC.seq (WC.region ?_))))
 refine sg 1 [] [0, 2, 3, 4, 6, 10, 11, 12] [(0, (sv Aa p0 ca)), (2, (sv Ag p2 cg)), (3, (bv p3)), (4, (iv p4)), (6, (pt g7)), (10, (pt g10)), (11, (iv 0)), (12, (iv 0))] (by kernel_rfl) ?_
 refine WL.done rfl (WX.next ?_)
 obtain ⟨x15, hx16, hf⟩ := bind_some hf
 let e1 : List Own := [rowR enc_Tile Aa ca p0, rowR enc_Frac Ab cb p1.Values, rowR enc_Frac Ac cc p1.Carries, rowR enc_Frac Ad cd p1.Factors, rowR encInt Ae ce p1.Primes, rowR encInt Af cf p1.Logs, rowR encInt Ag cg p2]
 let e4 : Array Value := #[(sv Ab p1.Values cb), (sv Ac p1.Carries cc), (sv Ad p1.Factors cd), (sv Ae p1.Primes ce), (sv Af p1.Logs cf)]
 let e6 : Nat × Value := (0, (sv Aa p0 ca))
 let e7 : Nat × Value := (2, (sv Ag p2 cg))
 let e8 : Nat × Value := (10, (pt g10))
 let e9 : Nat × Value := (4, (iv p4))
 let e11 : Nat × Value := (3, (bv p3))
 let e12 : Nat × Value := (6, (pt g7))
 let e13 : List Nat := [0, 1, 2, 3, 4, 5, 6]
 let e16 := sv Ab p1.Values cb
 let e17 : List Nat := [0, 2, 3, 4, 6, 10, 11, 12, 13]
 let e18 : List Nat := [0, 2, 3, 4, 6, 10, 11, 12]
 let e19 : Array Value := #[(iv 0), (iv 0)]
 refine WC.cutN (T := Int) (fun t => [e9, e8, (11, (iv t))]) (fun t w1 => St NoS w w1 e1 [blk g10 (.cells e19 33 (0, 0))] ∧ x15 = t) (fun Kx15 => ?_) ?_
 ·
  refine WC.block ?_
  refine WC.loop (T := Int × Int) (fun t => [e6, e7, e11, e9, e12, e8, (11, (iv t.1)), (12, (iv t.2))]) (fun n t w1 => St NoS w w1 e1 [blk g7 (.cells e4 26 (0, 0)), blk g10 (.cells e19 33 (0, 0))] ∧ ref06_Sum.l0 n t.1 t.2 p0 p1 p2 p3 p4 = some x15) k (0, 0) e18 rfl ⟨(hS12.subR e13).sub [1, 0] (by decide), hx16⟩ ?_
  rintro k17 ⟨x13, x14⟩ w18 ⟨hS20, hl21⟩
  let e5 := rdD p0 (rdD p2 x14 0) z_Tile
  let e10 : Nat × Value := (12, (iv x14))
  let e14 : Nat × Value := (11, (iv x13))
  let e15 := rdD p2 x14 0
  cases k17 with
  | zero => rw [ref06_Sum.l0] at hl21; cases hl21
  | succ k17 =>
   rw [ref06_Sum.l0] at hl21
   refine WC.seq (WC.seq (WC.region ?_))
   refine sg 4 [] [0, 2, 3, 4, 6, 10, 11, 12, 18] [e6, e7, e11, e9, e12, e8, e14, e10, (18, (bv (decide (x14 < (p2.length : Int)))))] (by kernel_rfl) ?_
   refine WL.done rfl (WX.next ?_)
   rcases br_some hl21 with ⟨h22, hl21⟩ | ⟨h22, hl21⟩
   ·refine WC.condT2 (fun fb => by kernel_rfl) h22 ?_
    refine WC.skip (WX.next (WC.seq (WC.block (WC.seq (WC.region ?_)))))
    refine sg 3 [] [0, 2, 3, 4, 6, 10, 11, 12, 21, 22, 23] [e6, e7, e11, e9, e12, e8, e14, e10, (21, (sv Aa p0 ca)), (22, (sv Ag p2 cg)), (23, (iv x14))] (by kernel_rfl) ?_
    obtain ⟨h23, hl21⟩ := as_some hl21
    refine seg 5 [.v (iv e15)] [0, 2, 3, 4, 6, 10, 11, 12, 21, 25] [e6, e7, e11, e9, e12, e8, e14, e10, (21, (sv Aa p0 ca)), (25, (iv e15))] [.idx Ag x14 p2.length, .cell ((adr Ag).add ((x14).toNat * 1)) (iv e15)] (fun fb => by kernel_rfl) rfl ⟨rowR.adr (hS20.rd 6).1 h23.1 h23.2, rowR.cell (hS20.rd 6).1 0 h23.1 h23.2 0 rfl, trivial⟩ ?_
    obtain ⟨h24, hl21⟩ := as_some hl21
    refine seg 9 [.v (iv (e5.S))] e17 [e6, e7, e11, e9, e12, e8, e14, e10, (13, (iv (e5.S)))] [.idx Aa e15 p0.length, .cell (((adr Aa).add ((e15).toNat * 4)).add 2) (iv (e5.S))] (fun fb => by kernel_rfl) rfl ⟨rowR.adr (hS20.rd 0).1 h24.1 h24.2, rowR.cell (hS20.rd 0).1 z_Tile h24.1 h24.2 2 rfl, trivial⟩ ?_
    refine WL.done rfl (WX.next (WC.seq (WC.seq (WC.region ?_))))
    refine sg 1 [] [0, 2, 3, 4, 6, 10, 11, 12, 13, 29] [e6, e7, e11, e9, e12, e8, e14, e10, (13, (iv (e5.S))), (29, (bv p3))] (by kernel_rfl) ?_
    refine WL.done rfl (WX.next ?_)
    obtain ⟨x25, hx26, hl21⟩ := bind_some hl21
    refine WC.cutN (T := Int) (fun t => [e6, e7, e11, e9, e12, e8, e14, e10, (13, (iv t))]) (fun t w1 => St NoS w w1 e1 [blk g7 (.cells e4 26 (0, 0)), blk g10 (.cells e19 33 (0, 0))] ∧ x25 = t) (fun Kx25 => ?_) ?_
    ·
     rcases br_some hx26 with ⟨h27, hx26⟩ | ⟨h27, hx26⟩
     ·refine WC.condT2 (fun fb => by kernel_rfl) h27 ?_
      refine WC.region ?_
      refine seg 9 [.v (iv e15), .v (iv (e5.N))] e17 [e6, e7, e11, e9, e12, e8, e14, e10, (13, (iv (e5.N)))] [.idx Ag x14 p2.length, .cell ((adr Ag).add ((x14).toNat * 1)) (iv e15), .idx Aa e15 p0.length, .cell ((adr Aa).add ((e15).toNat * 4)) (iv (e5.N))] (fun fb => by kernel_rfl) rfl ⟨rowR.adr (hS20.rd 6).1 h23.1 h23.2, rowR.cell (hS20.rd 6).1 0 h23.1 h23.2 0 rfl, rowR.adr (hS20.rd 0).1 h24.1 h24.2, rowR.cell (hS20.rd 0).1 z_Tile h24.1 h24.2 0 rfl, trivial⟩ ?_
      refine WL.done rfl ?_
      injection hx26 with hx26
      exact WX.to Kx25 (e5.N) e17 rfl ⟨(hS20.subR e13).sub [0, 1] (by decide), hx26.symm⟩
     refine WC.condF2 (fun fb => by kernel_rfl) h27 ?_
     refine WC.skip ?_
     injection hx26 with hx26
     exact WX.to Kx25 (e5.S) e17 rfl ⟨(hS20.subR e13).sub [0, 1] (by decide), hx26.symm⟩
    rintro y31 w28 ⟨hS29, hq30⟩
    subst hq30
    refine WX.next (WC.seq ?_)
    obtain ⟨x33, hx34, hl21⟩ := bind_some hl21
    let e2 : List (Nat × Addr × Value) := [(1, ⟨g7, 0, none⟩, e16), (5, ((adr Ab).add ((x25).toNat * 2)), (iv ((rdD p1.Values x25 z_Frac).Num))), (7, ⟨g7, 0, none⟩, e16), (11, (((adr Ab).add ((x25).toNat * 2)).add 1), (iv ((rdD p1.Values x25 z_Frac).Den)))]
    let e3 := rdD p1.Values x25 z_Frac
    refine WC.cutN (T := (Int × Int) × Nat) (fun t => [e6, e7, e11, e9, e12, e8, e14, e10, (14, (.pointer (some ⟨t.2, 0, none⟩)))]) (fun t w1 => St NoS w w1 e1 [blk g7 (.cells e4 26 (0, 0)), blk g10 (.cells e19 33 (0, 0)), blk t.2 (.cells #[(iv t.1.1), (iv t.1.2)] 33 (0, 0))] ∧ x33 = t.1) (fun Kx33 => ?_) ?_
    ·
     obtain ⟨h37, hx34⟩ := as_some hx34
     refine WC.regionD (e2, [0, 1, 2, 3, 4, 5, 6, 7, 8, 9, 10, 11], [[], [0], [], [0, 1, 2], [0, 1, 2, 3], [0, 1, 2, 3, 4], [], [6], [], [6, 7, 8], [6, 7, 8, 9], [6, 7, 8, 9, 10], [0, 1, 2, 3, 4, 5, 6, 7, 8, 9, 10, 11], [], [0, 1, 2, 3, 4, 5, 6, 7, 8, 9, 10, 11, 12, 13]]) [[0, 1, 2, 3, 4, 5, 6, 7, 8, 9, 10, 11, 12, 13, 14], [0, 1, 2, 3, 4, 5, 6, 7, 8, 9, 10, 11, 13, 12, 14]] (by kernel_rfl) (by kernel_rfl) (NoPanic.seq (NoPanic.block (NoPanic.seq (NoPanic.seq (NoPanic.block (NoPanic.seq (NoPanic.body))))))) ?_
     have hS36 := hS29.drew
     revert hS36
     generalize World.drew w28 = w35
     intro hS36
     refine ⟨⟨hS36.cell 0 rfl 0 rfl, rowR.cell (hS36.rd 1).1 z_Frac h37.1 h37.2 0 rfl, hS36.cell 0 rfl 0 rfl, rowR.cell (hS36.rd 1).1 z_Frac h37.1 h37.2 1 rfl, trivial⟩, forallC ?_ (forallC ?_ (forallN))⟩
     ·
      refine segF 12 [.v e16, .v (iv (e3.Num)), .v e16, .v (iv (e3.Den))] [0, 2, 3, 4, 6, 10, 11, 12, 43, 49] [e6, e7, e11, e9, e12, e8, e14, e10, (43, (iv (e3.Num))), (49, (iv (e3.Den)))] [.idx Ab x25 p1.Values.length, .idx Ab x25 p1.Values.length] [0, 1, 2, 3] e2 (fun fb => by kernel_rfl) rfl ⟨rowR.adr (hS36.rd 1).1 h37.1 h37.2, rowR.adr (hS36.rd 1).1 h37.1 h37.2, trivial⟩ rfl ?_
      obtain ⟨t38, ht39, hx34⟩ := bind_some hx34
      refine WL.call (some 50) 51 #[(iv (e3.Num)), (iv (e3.Den))] (fun fb => by kernel_rfl) (ref06_Lowest_calls _ (e3.Num) (e3.Den) t38 _ ht39) (fun v w40 hR41 => ?_)
      obtain ⟨rfl, hk_⟩ := hR41
      have hS42 := hS36.keepN hk_
      refine ⟨trivial, ?_⟩
      refine WL.new hS42 14 [] (fun g => (pt g)) (.cells e19 33 (0, 0)) [] (fun fb g => by kernel_rfl) trivial (fun g43 w44 hS45 => ?_)
      refine ⟨⟨hS45.cell 1 rfl 0 rfl, rowR.cell (hS45.rd 1).1 z_Frac h37.1 h37.2 0 rfl, hS45.cell 1 rfl 0 rfl, rowR.cell (hS45.rd 1).1 z_Frac h37.1 h37.2 1 rfl, trivial⟩, ?_⟩
      refine WL.store hS45 0 rfl [(0, (iv t38.Num)), (1, (iv t38.Den))] #[(iv t38.Num), (iv t38.Den)] (fun fb => by kernel_rfl) (by kernel_rfl) rfl [1, 2] (by decide) (by decide) (fun w46 hS47 => ?_)
      refine ⟨trivial, ?_⟩
      refine WL.done rfl ?_
      injection hx34 with hx34
      exact WX.to Kx33 ((t38.Num, t38.Den), g43) [0, 2, 3, 4, 6, 10, 11, 12, 14] rfl ⟨(hS47.subR e13).sub [1, 2, 0] (by decide), hx34.symm⟩
     refine segF 12 [.v e16, .v (iv (e3.Num)), .v e16, .v (iv (e3.Den))] [0, 2, 3, 4, 6, 10, 11, 12, 43, 49] [e6, e7, e11, e9, e12, e8, e14, e10, (43, (iv (e3.Num))), (49, (iv (e3.Den)))] [.idx Ab x25 p1.Values.length, .idx Ab x25 p1.Values.length] [0, 1, 2, 3] e2 (fun fb => by kernel_rfl) rfl ⟨rowR.adr (hS36.rd 1).1 h37.1 h37.2, rowR.adr (hS36.rd 1).1 h37.1 h37.2, trivial⟩ rfl ?_
     refine WL.new hS36 14 [] (fun g => (pt g)) (.cells e19 33 (0, 0)) [] (fun fb g => by kernel_rfl) trivial (fun g48 w49 hS50 => ?_)
     refine ⟨⟨hS50.cell 1 rfl 0 rfl, rowR.cell (hS50.rd 1).1 z_Frac h37.1 h37.2 0 rfl, hS50.cell 1 rfl 0 rfl, rowR.cell (hS50.rd 1).1 z_Frac h37.1 h37.2 1 rfl, trivial⟩, ?_⟩
     obtain ⟨t51, ht52, hx34⟩ := bind_some hx34
     refine WL.call (some 50) 51 #[(iv (e3.Num)), (iv (e3.Den))] (fun fb => by kernel_rfl) (ref06_Lowest_calls _ (e3.Num) (e3.Den) t51 _ ht52) (fun v w53 hR54 => ?_)
     obtain ⟨rfl, hk_⟩ := hR54
     have hS55 := hS50.keepN hk_
     refine ⟨trivial, ?_⟩
     refine WL.store hS55 0 rfl [(0, (iv t51.Num)), (1, (iv t51.Den))] #[(iv t51.Num), (iv t51.Den)] (fun fb => by kernel_rfl) (by kernel_rfl) rfl [1, 2] (by decide) (by decide) (fun w56 hS57 => ?_)
     refine ⟨trivial, ?_⟩
     refine WL.done rfl ?_
     injection hx34 with hx34
     exact WX.to Kx33 ((t51.Num, t51.Den), g48) [0, 2, 3, 4, 6, 10, 11, 12, 14] rfl ⟨(hS57.subR e13).sub [1, 2, 0] (by decide), hx34.symm⟩
    rintro ⟨y61, g32⟩ w58 ⟨hS59, hq60⟩
    subst hq60
    refine WX.next ?_
    obtain ⟨h65, hl21⟩ := as_some hl21
    refine WC.regionD ([(2, ⟨g32, 0, none⟩, (iv x33.1)), (5, ⟨g32, 1, none⟩, (iv x33.2))], [0, 1, 2, 3, 4, 5, 6, 7, 8, 9], [[], [], [1], [], [], [4], [3, 4, 5], [1, 2, 3, 4, 5, 6], [0, 1, 2, 3, 4, 5, 6, 7], [0, 1, 2, 3, 4, 5, 6, 7, 8]]) [[0, 1, 2, 3, 4, 5, 6, 7, 8, 9]] (by kernel_rfl) (by kernel_rfl) (NoPanic.block (NoPanic.seq (NoPanic.seq (NoPanic.block (NoPanic.seq (NoPanic.body)))))) ?_
    have hS63 := hS59.drew
    revert hS63
    generalize World.drew w58 = w62
    intro hS63
    refine ⟨⟨hS63.cell 2 rfl 0 rfl, hS63.cell 2 rfl 1 rfl, trivial⟩, forallC ?_ (forallN)⟩
    refine segF 10 [.v (iv x33.1), .v (iv x33.2)] e18 [e6, e7, e11, e9, e12, e8, (11, (iv (w64 (x13 + (w64 (x33.1 * (w64 (Int.tdiv p4 x33.2)))))))), e10] [.ne x33.2] [0, 1] [(2, ⟨g32, 0, none⟩, (iv x33.1)), (5, ⟨g32, 1, none⟩, (iv x33.2))] (fun fb => by kernel_rfl) rfl ⟨h65, trivial⟩ rfl ?_
    refine WL.done rfl ?_
    refine WX.blockN (WX.next ?_)
    refine WC.region ?_
    refine sg 3 [] e18 [e6, e7, e11, e9, e12, e8, (11, (iv (w64 (x13 + (w64 (x33.1 * (w64 (Int.tdiv p4 x33.2)))))))), (12, (iv (w64 (x14 + 1))))] (by kernel_rfl) ?_
    refine WL.done rfl ?_
    exact WX.again k17 (Nat.lt_succ_self _) (w64 (x13 + (w64 (x33.1 * (w64 (Int.tdiv p4 x33.2))))), w64 (x14 + 1)) e18 rfl ⟨(hS63.subR e13).sub [0, 1] (by decide), hl21⟩
   refine WC.condF2 (fun fb => by kernel_rfl) h22 ?_
   refine WC.exit ?_
   injection hl21 with hl21
   exact WX.thenX (WX.thenX (WX.blockHere (WX.to Kx15 x13 [4, 10, 11] rfl ⟨(hS20.subR e13).sub [1] (by decide), hl21.symm⟩)))
 rintro y69 w66 ⟨hS67, hq68⟩
 subst hq68
 refine WX.next (WC.seq (WC.region ?_))
 refine sg 2 [] [10, 60, 61] [e8, (60, (iv x15)), (61, (iv p4))] (by kernel_rfl) ?_
 obtain ⟨t70, ht71, hf⟩ := bind_some hf
 refine WL.call (some 62) 51 #[(iv x15), (iv p4)] (fun fb => by kernel_rfl) (ref06_Lowest_calls _ x15 p4 t70 _ ht71) (fun v w72 hR73 => ?_)
 obtain ⟨rfl, hk_⟩ := hR73
 have hS74 := hS67.keepN hk_
 refine ⟨trivial, ?_⟩
 refine WL.store hS74 0 rfl [(0, (iv t70.Num)), (1, (iv t70.Den))] #[(iv t70.Num), (iv t70.Den)] (fun fb => by kernel_rfl) (by kernel_rfl) rfl [] (by decide) (by decide) (fun w75 hS76 => ?_)
 refine ⟨trivial, ?_⟩
 refine WL.done rfl (WX.next ?_)
 refine WC.ret ?_
 injection hf with hf
 subst hf
 exact WX.ret_ [.v (iv t70.Num), .v (iv t70.Den)] (.agg #[(iv t70.Num), (iv t70.Den)]) [.cell ⟨g10, 0, none⟩ (iv t70.Num), .cell ⟨g10, 1, none⟩ (iv t70.Den)] (fun fb => by kernel_rfl) ⟨hS76.cell 0 rfl 0 rfl, hS76.cell 0 rfl 1 rfl, trivial⟩ ⟨_, rfl, rfl, hS76.keep⟩
theorem law06_WeightRow_calls (k : Nat) (p0 : List Tile) (p1 : Weights) (p2 : List Int) (Aa : Option Addr) (ca : Nat) (Ab : Option Addr) (cb : Nat) (Ac : Option Addr) (cc : Nat) (Ad : Option Addr) (cd : Nat) (Ae : Option Addr) (ce : Nat) (Af : Option Addr) (cf : Nat) (Ag : Option Addr) (cg : Nat) (mG : Glo) (r : Bool) (w : World) (hR0 : RO NoS w (rowR enc_Tile Aa ca p0)) (hR1 : RO NoS w (rowR enc_Frac Ab cb p1.Values)) (hR2 : RO NoS w (rowR enc_Frac Ac cc p1.Carries)) (hR3 : RO NoS w (rowR enc_Frac Ad cd p1.Factors)) (hR4 : RO NoS w (rowR encInt Ae ce p1.Primes)) (hR5 : RO NoS w (rowR encInt Af cf p1.Logs)) (hR6 : RO NoS w (rowR encInt Ag cg p2)) (hR7 : RO NoS w (tabO 0 md0)) (hR8 : RO NoS w (gloO Tryz.prog 5 8 3 4 mG)) (hf : law06_WeightRow k p0 p1 p2 = some r) :
  CallsR Tryz.prog 4 #[(sv Aa p0 ca), (.agg #[(sv Ab p1.Values cb), (sv Ac p1.Carries cc), (sv Ad p1.Factors cd), (sv Ae p1.Primes ce), (sv Af p1.Logs cf)]), (sv Ag p2 cg)] w (fun v w' => v = (bv r) ∧ Keeps NoS w w') := by
 have hS : St NoS w w [rowR enc_Tile Aa ca p0, rowR enc_Frac Ab cb p1.Values, rowR enc_Frac Ac cc p1.Carries, rowR enc_Frac Ad cd p1.Factors, rowR encInt Ae ce p1.Primes, rowR encInt Af cf p1.Logs, rowR encInt Ag cg p2, tabO 0 md0, gloO Tryz.prog 5 8 3 4 mG] [] := St.init (ro_cons hR0 (ro_cons hR1 (ro_cons hR2 (ro_cons hR3 (ro_cons hR4 (ro_cons hR5 (ro_cons hR6 (ro_cons hR7 (ro_cons hR8 (ro_nil _ _))))))))))
 refine enter 142 Tryz.func4 rfl Tryz.ntmps4 rfl ?_
 unfold law06_WeightRow at hf
 refine WC.seq (WC.region ?_)
 refine WL.new hS 4 [] (fun g => (pt g)) (.cells #[(sv Ab p1.Values cb), (sv Ac p1.Carries cc), (sv Ad p1.Factors cd), (sv Ae p1.Primes ce), (sv Af p1.Logs cf)] 26 (0, 0)) [] (fun fb g => by kernel_rfl) trivial (fun g1 w2 hS3 => ?_)
 refine ⟨trivial, ?_⟩
 refine sg 2 [] [0, 2, 4] [(0, (sv Aa p0 ca)), (2, (sv Ag p2 cg)), (4, (pt g1))] (by kernel_rfl) ?_
 refine WL.done rfl (WX.next (WC.seq (WC.seq (WC.region ?_))))
 refine seg 2 [.v (sv Ab p1.Values cb), .v (sv Ac p1.Carries cc), .v (sv Ad p1.Factors cd), .v (sv Ae p1.Primes ce), .v (sv Af p1.Logs cf)] [0, 2, 4, 14, 15] [(0, (sv Aa p0 ca)), (2, (sv Ag p2 cg)), (4, (pt g1)), (14, (sv Aa p0 ca)), (15, (.agg #[(sv Ab p1.Values cb), (sv Ac p1.Carries cc), (sv Ad p1.Factors cd), (sv Ae p1.Primes ce), (sv Af p1.Logs cf)]))] [.cell ⟨g1, 0, none⟩ (sv Ab p1.Values cb), .cell ⟨g1, 1, none⟩ (sv Ac p1.Carries cc), .cell ⟨g1, 2, none⟩ (sv Ad p1.Factors cd), .cell ⟨g1, 3, none⟩ (sv Ae p1.Primes ce), .cell ⟨g1, 4, none⟩ (sv Af p1.Logs cf)] (fun fb => by kernel_rfl) rfl ⟨hS3.cell 0 rfl 0 rfl, hS3.cell 0 rfl 1 rfl, hS3.cell 0 rfl 2 rfl, hS3.cell 0 rfl 3 rfl, hS3.cell 0 rfl 4 rfl, trivial⟩ ?_
 obtain ⟨t13, ht14, hf⟩ := bind_some hf
 refine WL.call (some 16) 8 #[(sv Aa p0 ca), (.agg #[(sv Ab p1.Values cb), (sv Ac p1.Carries cc), (sv Ad p1.Factors cd), (sv Ae p1.Primes ce), (sv Af p1.Logs cf)])] (fun fb => by kernel_rfl) (law06_wide_calls p0 p1 Aa ca Ab cb Ac cc Ad cd Ae ce Af cf t13 _ (hS3.rd 0) (hS3.rd 1) (hS3.rd 2) (hS3.rd 3) (hS3.rd 4) (hS3.rd 5) ht14) (fun v w15 hR16 => ?_)
 obtain ⟨rfl, hk_⟩ := hR16
 have hS17 := hS3.keepN hk_
 refine ⟨trivial, ?_⟩
 refine sg 4 [] [0, 2, 4, 17] [(0, (sv Aa p0 ca)), (2, (sv Ag p2 cg)), (4, (pt g1)), (17, (bv t13))] (by kernel_rfl) ?_
 refine WL.cutV (T := Bool) 8 (fun t => [(21, (bv t)), (0, (sv Aa p0 ca)), (2, (sv Ag p2 cg)), (4, (pt g1))]) (fun t => (t13 || (decide ((p2.length : Int) > 50000))) = t) (fun K => ?_) ?_
 ·
  rcases Bool.eq_false_or_eq_true t13 with h18 | h18
  ·
   refine WL.setB 17 h18 rfl ?_
   refine sg 8 [] [0, 2, 4, 21] [(0, (sv Aa p0 ca)), (2, (sv Ag p2 cg)), (4, (pt g1)), (21, (bv true))] (by kernel_rfl) ?_
   exact WL.toV K true [21, 0, 2, 4] rfl (by first | (rw [h18]; done) | (rw [h18]; rfl))
  refine WL.setB 17 h18 rfl ?_
  refine sg 8 [] [0, 2, 4, 21] [(0, (sv Aa p0 ca)), (2, (sv Ag p2 cg)), (4, (pt g1)), (21, (bv (decide ((p2.length : Int) > 50000))))] (by kernel_rfl) ?_
  exact WL.toV K (decide ((p2.length : Int) > 50000)) [21, 0, 2, 4] rfl (by first | (rw [h18]; done) | (rw [h18]; rfl))
 rintro b19 rfl
 refine WL.done rfl (WX.next ?_)
 rcases br_some hf with ⟨h20, hf⟩ | ⟨h20, hf⟩
 ·refine WC.condT2 (fun fb => by kernel_rfl) h20 ?_
  refine WC.seq (WC.region ?_)
  obtain ⟨t9, ht10, hf⟩ := bind_some hf
  refine WL.call (some 22) 10 #[] (fun fb => by kernel_rfl) (law06_awake_calls _ mG t9 _ (hS17.rd 7) (hS17.rd 8) ht10) (fun v w11 hR12 => ?_)
  obtain ⟨rfl, hk_⟩ := hR12
  have hS21 := hS17.keepN hk_
  refine ⟨trivial, ?_⟩
  refine sg 2 [] [6] [(6, (bv t9))] (by kernel_rfl) ?_
  refine WL.done rfl (WX.next ?_)
  refine WC.ret ?_
  injection hf with hf
  subst hf
  exact WX.thenR (WX.ret_ [] (bv t9) [] (fun fb => by kernel_rfl) trivial ⟨_, rfl, rfl, hS21.keep⟩)
 refine WC.condF2 (fun fb => by kernel_rfl) h20 ?_
 refine WC.skip (WX.next (WC.seq (WC.region ?_)))
 refine seg 3 [.v (sv Ab p1.Values cb), .v (sv Ac p1.Carries cc), .v (sv Ad p1.Factors cd), .v (sv Ae p1.Primes ce), .v (sv Af p1.Logs cf)] [0, 2, 4, 24, 25, 26] [(0, (sv Aa p0 ca)), (2, (sv Ag p2 cg)), (4, (pt g1)), (24, (sv Aa p0 ca)), (25, (.agg #[(sv Ab p1.Values cb), (sv Ac p1.Carries cc), (sv Ad p1.Factors cd), (sv Ae p1.Primes ce), (sv Af p1.Logs cf)])), (26, (sv Ag p2 cg))] [.cell ⟨g1, 0, none⟩ (sv Ab p1.Values cb), .cell ⟨g1, 1, none⟩ (sv Ac p1.Carries cc), .cell ⟨g1, 2, none⟩ (sv Ad p1.Factors cd), .cell ⟨g1, 3, none⟩ (sv Ae p1.Primes ce), .cell ⟨g1, 4, none⟩ (sv Af p1.Logs cf)] (fun fb => by kernel_rfl) rfl ⟨hS17.cell 0 rfl 0 rfl, hS17.cell 0 rfl 1 rfl, hS17.cell 0 rfl 2 rfl, hS17.cell 0 rfl 3 rfl, hS17.cell 0 rfl 4 rfl, trivial⟩ ?_
 obtain ⟨t22, ht23, hf⟩ := bind_some hf
 refine WL.call (some 27) 14 #[(sv Aa p0 ca), (.agg #[(sv Ab p1.Values cb), (sv Ac p1.Carries cc), (sv Ad p1.Factors cd), (sv Ae p1.Primes ce), (sv Af p1.Logs cf)]), (sv Ag p2 cg)] (fun fb => by kernel_rfl) (weight_Row_calls _ p0 p1 p2 Aa ca Ab cb Ac cc Ad cd Ae ce Af cf Ag cg t22 _ (hS17.rd 0) (hS17.rd 1) (hS17.rd 2) (hS17.rd 3) (hS17.rd 4) (hS17.rd 5) (hS17.rd 6) ht23) (fun v w24 hR25 => ?_)
 obtain ⟨rfl, hk_⟩ := hR25
 have hS26 := hS17.keepN hk_
 refine ⟨trivial, ?_⟩
 refine sg 8 [] [0, 2, 4, 28, 29, 30] [(0, (sv Aa p0 ca)), (2, (sv Ag p2 cg)), (4, (pt g1)), (28, (.agg #[(iv t22.1.Num), (iv t22.1.Den)])), (29, (.agg #[(iv t22.2.1.Num), (iv t22.2.1.Den)])), (30, (iv t22.2.2))] (by kernel_rfl) ?_
 refine WL.new hS26 7 [] (fun g => (pt g)) (.cells #[(iv 0), (iv 0)] 33 (0, 0)) [] (fun fb g => by kernel_rfl) trivial (fun g27 w28 hS29 => ?_)
 refine ⟨trivial, ?_⟩
 refine WL.new hS29 8 [] (fun g => (pt g)) (.cells #[(iv 0), (iv 0)] 33 (0, 0)) [] (fun fb g => by kernel_rfl) trivial (fun g30 w31 hS32 => ?_)
 refine ⟨trivial, ?_⟩
 refine WL.store hS32 1 rfl [(0, (iv t22.1.Num)), (1, (iv t22.1.Den))] #[(iv t22.1.Num), (iv t22.1.Den)] (fun fb => by kernel_rfl) (by kernel_rfl) rfl [0, 2] (by decide) (by decide) (fun w33 hS34 => ?_)
 refine ⟨trivial, ?_⟩
 refine WL.store hS34 1 rfl [(0, (iv t22.2.1.Num)), (1, (iv t22.2.1.Den))] #[(iv t22.2.1.Num), (iv t22.2.1.Den)] (fun fb => by kernel_rfl) (by kernel_rfl) rfl [0, 2] (by decide) (by decide) (fun w35 hS36 => ?_)
 refine ⟨trivial, ?_⟩
 refine sg 13 [] [0, 2, 4, 7, 8, 9] [(0, (sv Aa p0 ca)), (2, (sv Ag p2 cg)), (4, (pt g1)), (7, (pt g27)), (8, (pt g30)), (9, (iv t22.2.2))] (by kernel_rfl) ?_
 refine WL.done rfl (WX.next (WC.seq (WC.region ?_)))
 refine seg 4 [.v (iv t22.1.Num), .v (iv t22.1.Den)] [0, 2, 4, 7, 8, 9, 34] [(0, (sv Aa p0 ca)), (2, (sv Ag p2 cg)), (4, (pt g1)), (7, (pt g27)), (8, (pt g30)), (9, (iv t22.2.2)), (34, (bv (t22.1.Num == 0 && (t22.1.Den == 0))))] [.cell ⟨g27, 0, none⟩ (iv t22.1.Num), .cell ⟨g27, 1, none⟩ (iv t22.1.Den)] (fun fb => by kernel_rfl) rfl ⟨hS36.cell 1 rfl 0 rfl, hS36.cell 1 rfl 1 rfl, trivial⟩ ?_
 refine WL.cutV (T := Bool) 8 (fun t => [(38, (bv t)), (0, (sv Aa p0 ca)), (2, (sv Ag p2 cg)), (4, (pt g1)), (7, (pt g27)), (8, (pt g30)), (9, (iv t22.2.2))]) (fun t => ((t22.1.Num == 0 && (t22.1.Den == 0)) && (t22.2.1.Num == 0 && (t22.2.1.Den == 0))) = t) (fun K => ?_) ?_
 ·
  rcases Bool.eq_false_or_eq_true (t22.1.Num == 0 && (t22.1.Den == 0)) with h37 | h37
  ·
   refine WL.setB 34 h37 rfl ?_
   refine seg 8 [.v (iv t22.2.1.Num), .v (iv t22.2.1.Den)] [0, 2, 4, 7, 8, 9, 38] [(0, (sv Aa p0 ca)), (2, (sv Ag p2 cg)), (4, (pt g1)), (7, (pt g27)), (8, (pt g30)), (9, (iv t22.2.2)), (38, (bv (t22.2.1.Num == 0 && (t22.2.1.Den == 0))))] [.cell ⟨g30, 0, none⟩ (iv t22.2.1.Num), .cell ⟨g30, 1, none⟩ (iv t22.2.1.Den)] (fun fb => by kernel_rfl) rfl ⟨hS36.cell 0 rfl 0 rfl, hS36.cell 0 rfl 1 rfl, trivial⟩ ?_
   exact WL.toV K (t22.2.1.Num == 0 && (t22.2.1.Den == 0)) [38, 0, 2, 4, 7, 8, 9] rfl (by first | (rw [h37]; done) | (rw [h37]; rfl))
  refine WL.setB 34 h37 rfl ?_
  refine sg 8 [] [0, 2, 4, 7, 8, 9, 38] [(0, (sv Aa p0 ca)), (2, (sv Ag p2 cg)), (4, (pt g1)), (7, (pt g27)), (8, (pt g30)), (9, (iv t22.2.2)), (38, (bv false))] (by kernel_rfl) ?_
  exact WL.toV K false [38, 0, 2, 4, 7, 8, 9] rfl (by first | (rw [h37]; done) | (rw [h37]; rfl))
 rintro b38 rfl
 refine sg 9 [] [0, 2, 4, 7, 8, 9, 10] [(0, (sv Aa p0 ca)), (2, (sv Ag p2 cg)), (4, (pt g1)), (7, (pt g27)), (8, (pt g30)), (9, (iv t22.2.2)), (10, (bv ((t22.1.Num == 0 && (t22.1.Den == 0)) && (t22.2.1.Num == 0 && (t22.2.1.Den == 0)))))] (by kernel_rfl) ?_
 refine WL.done rfl (WX.next (WC.seq (WC.block (WC.seq (WC.region ?_)))))
 refine seg 2 [.v (sv Ab p1.Values cb), .v (sv Ac p1.Carries cc), .v (sv Ad p1.Factors cd), .v (sv Ae p1.Primes ce), .v (sv Af p1.Logs cf)] [0, 2, 4, 7, 8, 9, 10, 40, 41] [(0, (sv Aa p0 ca)), (2, (sv Ag p2 cg)), (4, (pt g1)), (7, (pt g27)), (8, (pt g30)), (9, (iv t22.2.2)), (10, (bv ((t22.1.Num == 0 && (t22.1.Den == 0)) && (t22.2.1.Num == 0 && (t22.2.1.Den == 0))))), (40, (sv Aa p0 ca)), (41, (.agg #[(sv Ab p1.Values cb), (sv Ac p1.Carries cc), (sv Ad p1.Factors cd), (sv Ae p1.Primes ce), (sv Af p1.Logs cf)]))] [.cell ⟨g1, 0, none⟩ (sv Ab p1.Values cb), .cell ⟨g1, 1, none⟩ (sv Ac p1.Carries cc), .cell ⟨g1, 2, none⟩ (sv Ad p1.Factors cd), .cell ⟨g1, 3, none⟩ (sv Ae p1.Primes ce), .cell ⟨g1, 4, none⟩ (sv Af p1.Logs cf)] (fun fb => by kernel_rfl) rfl ⟨hS36.cell 2 rfl 0 rfl, hS36.cell 2 rfl 1 rfl, hS36.cell 2 rfl 2 rfl, hS36.cell 2 rfl 3 rfl, hS36.cell 2 rfl 4 rfl, trivial⟩ ?_
 obtain ⟨t39, ht40, hf⟩ := bind_some hf
 refine WL.call (some 42) 9 #[(sv Aa p0 ca), (.agg #[(sv Ab p1.Values cb), (sv Ac p1.Carries cc), (sv Ad p1.Factors cd), (sv Ae p1.Primes ce), (sv Af p1.Logs cf)])] (fun fb => by kernel_rfl) (ref06_Valid_calls _ p0 p1 Aa ca Ab cb Ac cc Ad cd Ae ce Af cf t39 _ (hS36.rd 0) (hS36.rd 1) (hS36.rd 2) (hS36.rd 3) (hS36.rd 4) (hS36.rd 5) ht40) (fun v w41 hR42 => ?_)
 obtain ⟨rfl, hk_⟩ := hR42
 have hS43 := hS36.keepN hk_
 refine ⟨trivial, ?_⟩
 refine sg 5 [] [0, 2, 4, 7, 8, 9, 10, 39] [(0, (sv Aa p0 ca)), (2, (sv Ag p2 cg)), (4, (pt g1)), (7, (pt g27)), (8, (pt g30)), (9, (iv t22.2.2)), (10, (bv ((t22.1.Num == 0 && (t22.1.Den == 0)) && (t22.2.1.Num == 0 && (t22.2.1.Den == 0))))), (39, (bv (!t39)))] (by kernel_rfl) ?_
 refine WL.done rfl (WX.next ?_)
 rcases br_some hf with ⟨h44, hf⟩ | ⟨h44, hf⟩
 ·refine WC.condT2 (fun fb => by kernel_rfl) h44 ?_
  refine WC.seq (WC.region ?_)
  refine sg 3 [] [10, 46] [(10, (bv ((t22.1.Num == 0 && (t22.1.Den == 0)) && (t22.2.1.Num == 0 && (t22.2.1.Den == 0))))), (46, (bv (t22.2.2 == 1)))] (by kernel_rfl) ?_
  refine WL.cutV (T := Bool) 5 (fun t => [(48, (bv t))]) (fun t => ((t22.2.2 == 1) && ((t22.1.Num == 0 && (t22.1.Den == 0)) && (t22.2.1.Num == 0 && (t22.2.1.Den == 0)))) = t) (fun K => ?_) ?_
  ·
   rcases Bool.eq_false_or_eq_true (t22.2.2 == 1) with h45 | h45
   ·
    refine WL.setB 46 h45 rfl ?_
    refine sg 5 [] [48] [(48, (bv ((t22.1.Num == 0 && (t22.1.Den == 0)) && (t22.2.1.Num == 0 && (t22.2.1.Den == 0)))))] (by kernel_rfl) ?_
    exact WL.toV K ((t22.1.Num == 0 && (t22.1.Den == 0)) && (t22.2.1.Num == 0 && (t22.2.1.Den == 0))) [48] rfl (by first | (rw [h45]; done) | (rw [h45]; rfl))
   refine WL.setB 46 h45 rfl ?_
   refine sg 5 [] [48] [(48, (bv false))] (by kernel_rfl) ?_
   exact WL.toV K false [48] rfl (by first | (rw [h45]; done) | (rw [h45]; rfl))
  rintro b46 rfl
  refine sg 6 [] [49] [(49, (bv ((t22.2.2 == 1) && ((t22.1.Num == 0 && (t22.1.Den == 0)) && (t22.2.1.Num == 0 && (t22.2.1.Den == 0))))))] (by kernel_rfl) ?_
  obtain ⟨x47, hx48, hf⟩ := bind_some hf
  refine WL.cutW (T := Bool) 8 (fun t => [(51, (bv t))]) (fun t w1 => (St NoS w w1 [rowR enc_Tile Aa ca p0, rowR enc_Frac Ab cb p1.Values, rowR enc_Frac Ac cc p1.Carries, rowR enc_Frac Ad cd p1.Factors, rowR encInt Ae ce p1.Primes, rowR encInt Af cf p1.Logs, rowR encInt Ag cg p2, tabO 0 md0, gloO Tryz.prog 5 8 3 4 mG] [] ∧ x47 = t) ∧ CellsOK [] w1) (fun K => ?_) ?_
  ·
   rcases br_some hx48 with ⟨h49, hx48⟩ | ⟨h49, hx48⟩
   ·
    refine WL.setB 49 h49 rfl ?_
    obtain ⟨t50, ht51, hx48⟩ := bind_some hx48
    refine WL.call (some 50) 10 #[] (fun fb => by kernel_rfl) (law06_awake_calls _ mG t50 _ (hS43.rd 7) (hS43.rd 8) ht51) (fun v w52 hR53 => ?_)
    obtain ⟨rfl, hk_⟩ := hR53
    have hS54 := hS43.keepN hk_
    refine ⟨trivial, ?_⟩
    refine sg 8 [] [51] [(51, (bv t50))] (by kernel_rfl) ?_
    injection hx48 with hx48
    exact WL.to K t50 [51] rfl ⟨⟨(hS54.subR [0, 1, 2, 3, 4, 5, 6, 7, 8]).sub [] (by decide), hx48.symm⟩, trivial⟩
   refine WL.setB 49 h49 rfl ?_
   refine sg 8 [] [51] [(51, (bv false))] (by kernel_rfl) ?_
   injection hx48 with hx48
   exact WL.to K false [51] rfl ⟨⟨(hS43.subR [0, 1, 2, 3, 4, 5, 6, 7, 8]).sub [] (by decide), hx48.symm⟩, trivial⟩
  rintro y55 w57 ⟨⟨hS58, hq56⟩, hF59⟩
  subst hq56
  refine sg 9 [] [6] [(6, (bv x47))] (by kernel_rfl) ?_
  refine WL.done rfl (WX.next ?_)
  refine WC.ret ?_
  injection hf with hf
  subst hf
  exact WX.blockR (WX.thenR (WX.ret_ [] (bv x47) [] (fun fb => by kernel_rfl) trivial ⟨_, rfl, rfl, hS58.keep⟩))
 refine WC.condF2 (fun fb => by kernel_rfl) h44 ?_
 refine WC.seq (WC.region ?_)
 refine sg 2 [] [0, 2, 4, 7, 8, 9, 10, 53, 54] [(0, (sv Aa p0 ca)), (2, (sv Ag p2 cg)), (4, (pt g1)), (7, (pt g27)), (8, (pt g30)), (9, (iv t22.2.2)), (10, (bv ((t22.1.Num == 0 && (t22.1.Den == 0)) && (t22.2.1.Num == 0 && (t22.2.1.Den == 0))))), (53, (sv Aa p0 ca)), (54, (sv Ag p2 cg))] (by kernel_rfl) ?_
 obtain ⟨t60, ht61, hf⟩ := bind_some hf
 refine WL.call (some 55) 15 #[(sv Aa p0 ca), (sv Ag p2 cg)] (fun fb => by kernel_rfl) (ref06_IsRow_calls _ p0 p2 Aa ca Ag cg t60 _ (hS43.rd 0) (hS43.rd 6) ht61) (fun v w62 hR63 => ?_)
 obtain ⟨rfl, hk_⟩ := hR63
 have hS65 := hS43.keepN hk_
 refine ⟨trivial, ?_⟩
 refine sg 5 [] [0, 2, 4, 7, 8, 9, 10, 52] [(0, (sv Aa p0 ca)), (2, (sv Ag p2 cg)), (4, (pt g1)), (7, (pt g27)), (8, (pt g30)), (9, (iv t22.2.2)), (10, (bv ((t22.1.Num == 0 && (t22.1.Den == 0)) && (t22.2.1.Num == 0 && (t22.2.1.Den == 0))))), (52, (bv (!t60)))] (by kernel_rfl) ?_
 refine WL.done rfl (WX.next ?_)
 rcases br_some hf with ⟨h66, hf⟩ | ⟨h66, hf⟩
 ·refine WC.condT2 (fun fb => by kernel_rfl) h66 ?_
  refine WC.seq (WC.region ?_)
  refine sg 3 [] [10, 59] [(10, (bv ((t22.1.Num == 0 && (t22.1.Den == 0)) && (t22.2.1.Num == 0 && (t22.2.1.Den == 0))))), (59, (bv (t22.2.2 == 2)))] (by kernel_rfl) ?_
  refine WL.cutV (T := Bool) 5 (fun t => [(61, (bv t))]) (fun t => ((t22.2.2 == 2) && ((t22.1.Num == 0 && (t22.1.Den == 0)) && (t22.2.1.Num == 0 && (t22.2.1.Den == 0)))) = t) (fun K => ?_) ?_
  ·
   rcases Bool.eq_false_or_eq_true (t22.2.2 == 2) with h67 | h67
   ·
    refine WL.setB 59 h67 rfl ?_
    refine sg 5 [] [61] [(61, (bv ((t22.1.Num == 0 && (t22.1.Den == 0)) && (t22.2.1.Num == 0 && (t22.2.1.Den == 0)))))] (by kernel_rfl) ?_
    exact WL.toV K ((t22.1.Num == 0 && (t22.1.Den == 0)) && (t22.2.1.Num == 0 && (t22.2.1.Den == 0))) [61] rfl (by first | (rw [h67]; done) | (rw [h67]; rfl))
   refine WL.setB 59 h67 rfl ?_
   refine sg 5 [] [61] [(61, (bv false))] (by kernel_rfl) ?_
   exact WL.toV K false [61] rfl (by first | (rw [h67]; done) | (rw [h67]; rfl))
  rintro b68 rfl
  refine sg 6 [] [62] [(62, (bv ((t22.2.2 == 2) && ((t22.1.Num == 0 && (t22.1.Den == 0)) && (t22.2.1.Num == 0 && (t22.2.1.Den == 0))))))] (by kernel_rfl) ?_
  obtain ⟨x69, hx70, hf⟩ := bind_some hf
  refine WL.cutW (T := Bool) 8 (fun t => [(64, (bv t))]) (fun t w1 => (St NoS w w1 [rowR enc_Tile Aa ca p0, rowR enc_Frac Ab cb p1.Values, rowR enc_Frac Ac cc p1.Carries, rowR enc_Frac Ad cd p1.Factors, rowR encInt Ae ce p1.Primes, rowR encInt Af cf p1.Logs, rowR encInt Ag cg p2, tabO 0 md0, gloO Tryz.prog 5 8 3 4 mG] [] ∧ x69 = t) ∧ CellsOK [] w1) (fun K => ?_) ?_
  ·
   rcases br_some hx70 with ⟨h71, hx70⟩ | ⟨h71, hx70⟩
   ·
    refine WL.setB 62 h71 rfl ?_
    obtain ⟨t72, ht73, hx70⟩ := bind_some hx70
    refine WL.call (some 63) 10 #[] (fun fb => by kernel_rfl) (law06_awake_calls _ mG t72 _ (hS65.rd 7) (hS65.rd 8) ht73) (fun v w74 hR75 => ?_)
    obtain ⟨rfl, hk_⟩ := hR75
    have hS76 := hS65.keepN hk_
    refine ⟨trivial, ?_⟩
    refine sg 8 [] [64] [(64, (bv t72))] (by kernel_rfl) ?_
    injection hx70 with hx70
    exact WL.to K t72 [64] rfl ⟨⟨(hS76.subR [0, 1, 2, 3, 4, 5, 6, 7, 8]).sub [] (by decide), hx70.symm⟩, trivial⟩
   refine WL.setB 62 h71 rfl ?_
   refine sg 8 [] [64] [(64, (bv false))] (by kernel_rfl) ?_
   injection hx70 with hx70
   exact WL.to K false [64] rfl ⟨⟨(hS65.subR [0, 1, 2, 3, 4, 5, 6, 7, 8]).sub [] (by decide), hx70.symm⟩, trivial⟩
  rintro y77 w79 ⟨⟨hS80, hq78⟩, hF81⟩
  subst hq78
  refine sg 9 [] [6] [(6, (bv x69))] (by kernel_rfl) ?_
  refine WL.done rfl (WX.next ?_)
  refine WC.ret ?_
  injection hf with hf
  subst hf
  exact WX.blockR (WX.thenR (WX.ret_ [] (bv x69) [] (fun fb => by kernel_rfl) trivial ⟨_, rfl, rfl, hS80.keep⟩))
 refine WC.condF2 (fun fb => by kernel_rfl) h66 ?_
 refine WC.skip ?_
 refine WX.blockN (WX.next ?_)
 refine WC.seq (WC.region ?_)
 refine seg 2 [.v (sv Ab p1.Values cb)] [0, 2, 4, 7, 8, 9, 10, 66] [(0, (sv Aa p0 ca)), (2, (sv Ag p2 cg)), (4, (pt g1)), (7, (pt g27)), (8, (pt g30)), (9, (iv t22.2.2)), (10, (bv ((t22.1.Num == 0 && (t22.1.Den == 0)) && (t22.2.1.Num == 0 && (t22.2.1.Den == 0))))), (66, (sv Ab p1.Values cb))] [.cell ⟨g1, 0, none⟩ (sv Ab p1.Values cb)] (fun fb => by kernel_rfl) rfl ⟨hS65.cell 2 rfl 0 rfl, trivial⟩ ?_
 obtain ⟨t82, ht83, hf⟩ := bind_some hf
 refine WL.call (some 67) 16 #[(sv Ab p1.Values cb), (iv 1000000)] (fun fb => by kernel_rfl) (ref06_Common_calls _ p1.Values 1000000 Ab cb t82 _ (hS65.rd 1) ht83) (fun v w84 hR85 => ?_)
 obtain ⟨rfl, hk_⟩ := hR85
 have hS86 := hS65.keepN hk_
 refine ⟨trivial, ?_⟩
 refine sg 4 [] [0, 2, 4, 7, 8, 9, 10, 11] [(0, (sv Aa p0 ca)), (2, (sv Ag p2 cg)), (4, (pt g1)), (7, (pt g27)), (8, (pt g30)), (9, (iv t22.2.2)), (10, (bv ((t22.1.Num == 0 && (t22.1.Den == 0)) && (t22.2.1.Num == 0 && (t22.2.1.Den == 0))))), (11, (iv t82))] (by kernel_rfl) ?_
 refine WL.done rfl (WX.next (WC.seq (WC.seq (WC.region ?_))))
 refine sg 2 [] [0, 2, 4, 7, 8, 9, 10, 11, 69] [(0, (sv Aa p0 ca)), (2, (sv Ag p2 cg)), (4, (pt g1)), (7, (pt g27)), (8, (pt g30)), (9, (iv t22.2.2)), (10, (bv ((t22.1.Num == 0 && (t22.1.Den == 0)) && (t22.2.1.Num == 0 && (t22.2.1.Den == 0))))), (11, (iv t82)), (69, (bv (decide (t82 > 1000000))))] (by kernel_rfl) ?_
 refine WL.done rfl (WX.next ?_)
 obtain ⟨x87, hx88, hf⟩ := bind_some hf
 let e3 : List Own := [rowR enc_Tile Aa ca p0, rowR enc_Frac Ab cb p1.Values, rowR enc_Frac Ac cc p1.Carries, rowR enc_Frac Ad cd p1.Factors, rowR encInt Ae ce p1.Primes, rowR encInt Af cf p1.Logs, rowR encInt Ag cg p2, tabO 0 md0, gloO Tryz.prog 5 8 3 4 mG]
 let e15 : Array Value := #[(sv Ab p1.Values cb), (sv Ac p1.Carries cc), (sv Ad p1.Factors cd), (sv Ae p1.Primes ce), (sv Af p1.Logs cf)]
 let e16 : List Nat := [0, 1, 2, 3, 4, 5, 6, 7, 8]
 let e24 : Nat × Value := (8, (pt g30))
 let e25 := t22.2.1.Den == 0
 let e27 : Nat × Value := (0, (sv Aa p0 ca))
 let e28 : Nat × Value := (2, (sv Ag p2 cg))
 let e29 := t22.1.Den == 0
 let e30 : Array Value := #[(iv t22.2.1.Num), (iv t22.2.1.Den)]
 let e32 : Nat × Value := (9, (iv t22.2.2))
 let e33 : Nat × Value := (7, (pt g27))
 let e39 : Nat × Value := (4, (pt g1))
 let e40 := (decide ((p2.length : Int) > 200))
 let e41 : Array Value := #[(iv t22.1.Num), (iv t22.1.Den)]
 refine WC.cutN (T := Int) (fun t => [e27, e28, e39, e33, e24, e32, (10, (bv ((t22.1.Num == 0 && e29) && (t22.2.1.Num == 0 && e25)))), (11, (iv t))]) (fun t w1 => St NoS w w1 e3 [blk g1 (.cells e15 26 (0, 0)), blk g27 (.cells e41 33 (0, 0)), blk g30 (.cells e30 33 (0, 0))] ∧ x87 = .inr t) (fun Kx87 => ?_) ?_
 ·
  rcases br_some hx88 with ⟨h89, hx88⟩ | ⟨h89, hx88⟩
  ·refine WC.condT2 (fun fb => by kernel_rfl) h89 ?_
   refine WC.seq (WC.seq (WC.region ?_))
   refine sg 2 [] [0, 2, 4, 7, 8, 9, 10, 71] [e27, e28, e39, e33, e24, e32, (10, (bv ((t22.1.Num == 0 && e29) && (t22.2.1.Num == 0 && e25)))), (71, (bv (t22.2.2 == 4)))] (by kernel_rfl) ?_
   refine WL.done rfl (WX.next ?_)
   rcases br_some hx88 with ⟨h90, hx88⟩ | ⟨h90, hx88⟩
   ·refine WC.condT2 (fun fb => by kernel_rfl) h90 ?_
    refine WC.seq (WC.region ?_)
    refine sg 2 [] [73] [(73, (bv ((t22.1.Num == 0 && e29) && (t22.2.1.Num == 0 && e25))))] (by kernel_rfl) ?_
    obtain ⟨x91, hx92, hx88⟩ := bind_some hx88
    refine WL.cutW (T := Bool) 4 (fun t => [(75, (bv t))]) (fun t w1 => (St NoS w w1 e3 [] ∧ x91 = t) ∧ CellsOK [] w1) (fun K => ?_) ?_
    ·
     rcases br_some hx92 with ⟨h93, hx92⟩ | ⟨h93, hx92⟩
     ·
      refine WL.setB 73 h93 rfl ?_
      obtain ⟨t94, ht95, hx92⟩ := bind_some hx92
      refine WL.call (some 74) 10 #[] (fun fb => by kernel_rfl) (law06_awake_calls _ mG t94 _ (hS86.rd 7) (hS86.rd 8) ht95) (fun v w96 hR97 => ?_)
      obtain ⟨rfl, hk_⟩ := hR97
      have hS98 := hS86.keepN hk_
      refine ⟨trivial, ?_⟩
      refine sg 4 [] [75] [(75, (bv t94))] (by kernel_rfl) ?_
      injection hx92 with hx92
      exact WL.to K t94 [75] rfl ⟨⟨(hS98.subR e16).sub [] (by decide), hx92.symm⟩, trivial⟩
     refine WL.setB 73 h93 rfl ?_
     refine sg 4 [] [75] [(75, (bv false))] (by kernel_rfl) ?_
     injection hx92 with hx92
     exact WL.to K false [75] rfl ⟨⟨(hS86.subR e16).sub [] (by decide), hx92.symm⟩, trivial⟩
    rintro y99 w101 ⟨⟨hS102, hq100⟩, hF103⟩
    subst hq100
    refine sg 5 [] [6] [(6, (bv x91))] (by kernel_rfl) ?_
    refine WL.done rfl (WX.next ?_)
    refine WC.ret ?_
    injection hx88 with hx88
    subst hx88
    injection hf with hf
    subst hf
    exact WX.thenR (WX.thenR (WX.ret_ [] (bv x91) [] (fun fb => by kernel_rfl) trivial ⟨_, rfl, rfl, hS102.keep⟩))
   refine WC.condF2 (fun fb => by kernel_rfl) h90 ?_
   refine WC.skip (WX.next (WC.seq (WC.region ?_)))
   refine seg 3 [.v (sv Ab p1.Values cb), .v (sv Ac p1.Carries cc), .v (sv Ad p1.Factors cd), .v (sv Ae p1.Primes ce), .v (sv Af p1.Logs cf)] [0, 2, 4, 7, 8, 9, 10, 76, 77, 78] [e27, e28, e39, e33, e24, e32, (10, (bv ((t22.1.Num == 0 && e29) && (t22.2.1.Num == 0 && e25)))), (76, (sv Aa p0 ca)), (77, (.agg e15)), (78, (sv Ag p2 cg))] [.cell ⟨g1, 0, none⟩ (sv Ab p1.Values cb), .cell ⟨g1, 1, none⟩ (sv Ac p1.Carries cc), .cell ⟨g1, 2, none⟩ (sv Ad p1.Factors cd), .cell ⟨g1, 3, none⟩ (sv Ae p1.Primes ce), .cell ⟨g1, 4, none⟩ (sv Af p1.Logs cf)] (fun fb => by kernel_rfl) rfl ⟨hS86.cell 2 rfl 0 rfl, hS86.cell 2 rfl 1 rfl, hS86.cell 2 rfl 2 rfl, hS86.cell 2 rfl 3 rfl, hS86.cell 2 rfl 4 rfl, trivial⟩ ?_
   obtain ⟨t104, ht105, hx88⟩ := bind_some hx88
   refine WL.call (some 79) 17 #[(sv Aa p0 ca), (.agg e15), (sv Ag p2 cg)] (fun fb => by kernel_rfl) (ref06_Of_calls _ p0 p1 p2 Aa ca Ab cb Ac cc Ad cd Ae ce Af cf Ag cg t104 _ (hS86.rd 0) (hS86.rd 1) (hS86.rd 2) (hS86.rd 3) (hS86.rd 4) (hS86.rd 5) (hS86.rd 6) ht105) (fun v w106 hR107 => ?_)
   obtain ⟨A109, c110, rfl, hk_⟩ := hR107
   have hS108 := hS.go w106 [rowO 33 enc_Frac A109 c110 t104, blk g30 (.cells #[(iv t22.2.1.Num), (iv t22.2.1.Den)] 33 (0, 0)), blk g27 (.cells #[(iv t22.1.Num), (iv t22.1.Den)] 33 (0, 0)), blk g1 (.cells #[(.slice Ab p1.Values.length cb), (.slice Ac p1.Carries.length cc), (.slice Ad p1.Factors.length cd), (.slice Ae p1.Primes.length ce), (.slice Af p1.Logs.length cf)] 26 (0, 0))] (hS86.call hk_ [] [0, 1, 2] (fun g hg => hg.elim) (by simp) (by decide))
   refine ⟨trivial, ?_⟩
   obtain ⟨t111, ht112, hx88⟩ := bind_some hx88
   refine WL.call (some 80) 16 #[(sv A109 t104 c110), (iv 1000000000)] (fun fb => by kernel_rfl) (ref06_Common_calls _ t104 1000000000 A109 c110 t111 _ (hS108.ow 0).ofO ht112) (fun v w113 hR114 => ?_)
   obtain ⟨rfl, hk_⟩ := hR114
   have hS115 := hS108.keepN hk_
   refine ⟨trivial, ?_⟩
   refine sg 6 [] [0, 2, 4, 7, 8, 9, 10, 11] [e27, e28, e39, e33, e24, e32, (10, (bv ((t22.1.Num == 0 && e29) && (t22.2.1.Num == 0 && e25)))), (11, (iv t111))] (by kernel_rfl) ?_
   refine WL.done rfl (WX.next (WC.seq (WC.region ?_)))
   refine sg 4 [] [0, 2, 4, 7, 8, 9, 10, 11, 84] [e27, e28, e39, e33, e24, e32, (10, (bv ((t22.1.Num == 0 && e29) && (t22.2.1.Num == 0 && e25)))), (11, (iv t111)), (84, (bv e40))] (by kernel_rfl) ?_
   refine WL.cutV (T := Bool) 7 (fun t => [(87, (bv t)), e27, e28, e39, e33, e24, e32, (10, (bv ((t22.1.Num == 0 && e29) && (t22.2.1.Num == 0 && e25)))), (11, (iv t111))]) (fun t => (e40 || (decide (t111 > 1000000000))) = t) (fun K => ?_) ?_
   ·
    rcases Bool.eq_false_or_eq_true e40 with h116 | h116
    ·
     refine WL.setB 84 h116 rfl ?_
     refine sg 7 [] [0, 2, 4, 7, 8, 9, 10, 11, 87] [e27, e28, e39, e33, e24, e32, (10, (bv ((t22.1.Num == 0 && e29) && (t22.2.1.Num == 0 && e25)))), (11, (iv t111)), (87, (bv true))] (by kernel_rfl) ?_
     exact WL.toV K true [87, 0, 2, 4, 7, 8, 9, 10, 11] rfl (by first | (rw [h116]; done) | (rw [h116]; rfl))
    refine WL.setB 84 h116 rfl ?_
    refine sg 7 [] [0, 2, 4, 7, 8, 9, 10, 11, 87] [e27, e28, e39, e33, e24, e32, (10, (bv ((t22.1.Num == 0 && e29) && (t22.2.1.Num == 0 && e25)))), (11, (iv t111)), (87, (bv (decide (t111 > 1000000000))))] (by kernel_rfl) ?_
    exact WL.toV K (decide (t111 > 1000000000)) [87, 0, 2, 4, 7, 8, 9, 10, 11] rfl (by first | (rw [h116]; done) | (rw [h116]; rfl))
   rintro b117 rfl
   refine WL.done rfl (WX.next ?_)
   rcases br_some hx88 with ⟨h118, hx88⟩ | ⟨h118, hx88⟩
   ·refine WC.condT2 (fun fb => by kernel_rfl) h118 ?_
    refine WC.seq (WC.region ?_)
    refine sg 3 [] [7, 8, 90] [e33, e24, (90, (bv (t22.2.2 == 0)))] (by kernel_rfl) ?_
    obtain ⟨x119, hx120, hx88⟩ := bind_some hx88
    refine WL.cutW (T := Bool) 6 (fun t => [e24, (93, (bv t))]) (fun t w1 => (St NoS w w1 e3 [blk g30 (.cells e30 33 (0, 0))] ∧ x119 = t) ∧ CellsOK [] w1) (fun K => ?_) ?_
    ·
     rcases br_some hx120 with ⟨h121, hx120⟩ | ⟨h121, hx120⟩
     ·
      refine WL.setB 90 h121 rfl ?_
      refine seg 4 [.v (iv t22.1.Num), .v (iv t22.1.Den)] [8, 90, 91] [e24, (90, (bv true)), (91, (.agg e41))] [.cell ⟨g27, 0, none⟩ (iv t22.1.Num), .cell ⟨g27, 1, none⟩ (iv t22.1.Den)] (fun fb => by kernel_rfl) rfl ⟨hS115.cell 2 rfl 0 rfl, hS115.cell 2 rfl 1 rfl, trivial⟩ ?_
      obtain ⟨t122, ht123, hx120⟩ := bind_some hx120
      refine WL.call (some 92) 18 #[(.agg e41)] (fun fb => by kernel_rfl) (ref06_Fits_calls t22.1 t122 _ ht123) (fun v w124 hR125 => ?_)
      obtain ⟨rfl, hk_⟩ := hR125
      have hS126 := hS115.keepN hk_
      refine ⟨trivial, ?_⟩
      refine sg 6 [] [8, 93] [e24, (93, (bv t122))] (by kernel_rfl) ?_
      injection hx120 with hx120
      exact WL.to K t122 [8, 93] rfl ⟨⟨(hS126.subR e16).sub [1] (by decide), hx120.symm⟩, trivial⟩
     refine WL.setB 90 h121 rfl ?_
     refine sg 6 [] [8, 93] [e24, (93, (bv false))] (by kernel_rfl) ?_
     injection hx120 with hx120
     exact WL.to K false [8, 93] rfl ⟨⟨(hS115.subR e16).sub [1] (by decide), hx120.symm⟩, trivial⟩
    rintro y127 w129 ⟨⟨hS130, hq128⟩, hF131⟩
    subst hq128
    refine sg 7 [] [8, 94] [e24, (94, (bv x119))] (by kernel_rfl) ?_
    obtain ⟨x132, hx133, hx88⟩ := bind_some hx88
    refine WL.cutW (T := Bool) 10 (fun t => [(97, (bv t))]) (fun t w1 => (St NoS w w1 e3 [] ∧ x132 = t) ∧ CellsOK [] w1) (fun K => ?_) ?_
    ·
     rcases br_some hx133 with ⟨h134, hx133⟩ | ⟨h134, hx133⟩
     ·
      refine WL.setB 94 h134 rfl ?_
      refine seg 8 [.v (iv t22.2.1.Num), .v (iv t22.2.1.Den)] [94, 95] [(94, (bv true)), (95, (.agg e30))] [.cell ⟨g30, 0, none⟩ (iv t22.2.1.Num), .cell ⟨g30, 1, none⟩ (iv t22.2.1.Den)] (fun fb => by kernel_rfl) rfl ⟨hS130.cell 0 rfl 0 rfl, hS130.cell 0 rfl 1 rfl, trivial⟩ ?_
      obtain ⟨t135, ht136, hx133⟩ := bind_some hx133
      refine WL.call (some 96) 18 #[(.agg e30)] (fun fb => by kernel_rfl) (ref06_Fits_calls t22.2.1 t135 _ ht136) (fun v w137 hR138 => ?_)
      obtain ⟨rfl, hk_⟩ := hR138
      have hS139 := hS130.keepN hk_
      refine ⟨trivial, ?_⟩
      refine sg 10 [] [97] [(97, (bv t135))] (by kernel_rfl) ?_
      injection hx133 with hx133
      exact WL.to K t135 [97] rfl ⟨⟨(hS139.subR e16).sub [] (by decide), hx133.symm⟩, trivial⟩
     refine WL.setB 94 h134 rfl ?_
     refine sg 10 [] [97] [(97, (bv false))] (by kernel_rfl) ?_
     injection hx133 with hx133
     exact WL.to K false [97] rfl ⟨⟨(hS130.subR e16).sub [] (by decide), hx133.symm⟩, trivial⟩
    rintro y140 w142 ⟨⟨hS143, hq141⟩, hF144⟩
    subst hq141
    refine sg 11 [] [98] [(98, (bv x132))] (by kernel_rfl) ?_
    obtain ⟨x145, hx146, hx88⟩ := bind_some hx88
    refine WL.cutW (T := Bool) 13 (fun t => [(100, (bv t))]) (fun t w1 => (St NoS w w1 e3 [] ∧ x145 = t) ∧ CellsOK [] w1) (fun K => ?_) ?_
    ·
     rcases br_some hx146 with ⟨h147, hx146⟩ | ⟨h147, hx146⟩
     ·
      refine WL.setB 98 h147 rfl ?_
      obtain ⟨t148, ht149, hx146⟩ := bind_some hx146
      refine WL.call (some 99) 10 #[] (fun fb => by kernel_rfl) (law06_awake_calls _ mG t148 _ (hS143.rd 7) (hS143.rd 8) ht149) (fun v w150 hR151 => ?_)
      obtain ⟨rfl, hk_⟩ := hR151
      have hS152 := hS143.keepN hk_
      refine ⟨trivial, ?_⟩
      refine sg 13 [] [100] [(100, (bv t148))] (by kernel_rfl) ?_
      injection hx146 with hx146
      exact WL.to K t148 [100] rfl ⟨⟨(hS152.subR e16).sub [] (by decide), hx146.symm⟩, trivial⟩
     refine WL.setB 98 h147 rfl ?_
     refine sg 13 [] [100] [(100, (bv false))] (by kernel_rfl) ?_
     injection hx146 with hx146
     exact WL.to K false [100] rfl ⟨⟨(hS143.subR e16).sub [] (by decide), hx146.symm⟩, trivial⟩
    rintro y153 w155 ⟨⟨hS156, hq154⟩, hF157⟩
    subst hq154
    refine sg 14 [] [6] [(6, (bv x145))] (by kernel_rfl) ?_
    refine WL.done rfl (WX.next ?_)
    refine WC.ret ?_
    injection hx88 with hx88
    subst hx88
    injection hf with hf
    subst hf
    exact WX.thenR (WX.ret_ [] (bv x145) [] (fun fb => by kernel_rfl) trivial ⟨_, rfl, rfl, hS156.keep⟩)
   refine WC.condF2 (fun fb => by kernel_rfl) h118 ?_
   refine WC.skip ?_
   injection hx88 with hx88
   exact WX.to Kx87 t111 [0, 2, 4, 7, 8, 9, 10, 11] rfl ⟨(hS115.subR e16).sub [3, 2, 1] (by decide), hx88.symm⟩
  refine WC.condF2 (fun fb => by kernel_rfl) h89 ?_
  refine WC.skip ?_
  injection hx88 with hx88
  exact WX.to Kx87 t82 [0, 2, 4, 7, 8, 9, 10, 11] rfl ⟨(hS86.subR e16).sub [2, 1, 0] (by decide), hx88.symm⟩
 rintro y161 w158 ⟨hS159, hq160⟩
 subst hq160
 have hf := sum_inr hf
 refine WX.next (WC.seq ?_)
 obtain ⟨x164, hx165, hf⟩ := bind_some hf
 let e1 : List (Nat × Addr × Value) := [(1, ⟨g1, 0, none⟩, (sv Ab p1.Values cb)), (1, ⟨g1, 1, none⟩, (sv Ac p1.Carries cc)), (1, ⟨g1, 2, none⟩, (sv Ad p1.Factors cd)), (1, ⟨g1, 3, none⟩, (sv Ae p1.Primes ce)), (1, ⟨g1, 4, none⟩, (sv Af p1.Logs cf)), (6, ⟨g1, 0, none⟩, (sv Ab p1.Values cb)), (6, ⟨g1, 1, none⟩, (sv Ac p1.Carries cc)), (6, ⟨g1, 2, none⟩, (sv Ad p1.Factors cd)), (6, ⟨g1, 3, none⟩, (sv Ae p1.Primes ce)), (6, ⟨g1, 4, none⟩, (sv Af p1.Logs cf))]
 let e2 : Array Value := e15
 let e4 : List Nat := [7, 8, 9, 10, 101, 102, 103, 104, 106, 107, 108, 109]
 let e5 := sv Aa p0 ca
 let e6 := sv Ag p2 cg
 let e7 := sv Ac p1.Carries cc
 let e8 := sv Ad p1.Factors cd
 let e9 := sv Ab p1.Values cb
 let e10 := sv Ae p1.Primes ce
 let e11 := sv Af p1.Logs cf
 let e12 : Array Value := #[(iv 0), (iv 0)]
 let e13 : List Nat := [0, 1, 2, 3, 4, 5, 6, 7, 8, 9]
 let e14 : List Nat := e16
 let e17 : List Nat := [7, 8, 9, 10, 12, 13]
 let e18 := t22.2.1.Den == 0
 let e19 : Nat × Value := e32
 let e20 := t22.1.Den == 0
 let e21 : List Nat := [0, 2, 3, 4]
 let e22 : Nat × Value := (104, (iv y161))
 let e23 : Nat × Value := (109, (iv y161))
 let e26 : Nat × Value := e33
 let e31 : List Nat := [3, 4, 1, 0]
 let e34 := some 105
 let e35 := bv false
 let e36 := some 110
 refine WC.cutN (T := (Int × Int × Int × Int) × Nat × Nat) (fun t => [e26, e24, e19, (10, (bv ((t22.1.Num == 0 && e20) && (t22.2.1.Num == 0 && e18)))), (12, (.pointer (some ⟨t.2.1, 0, none⟩))), (13, (.pointer (some ⟨t.2.2, 0, none⟩)))]) (fun t w1 => St NoS w w1 e3 [blk g27 (.cells e41 33 (0, 0)), blk g30 (.cells e30 33 (0, 0)), blk t.2.1 (.cells #[(iv t.1.1), (iv t.1.2.1)] 33 (0, 0)), blk t.2.2 (.cells #[(iv t.1.2.2.1), (iv t.1.2.2.2)] 33 (0, 0))] ∧ x164 = t.1) (fun Kx164 => ?_) ?_
 ·
  refine WC.regionD (e1, [0, 1, 2, 3, 5, 6, 7, 8], [[], [], [], [], [0, 1, 2, 3], [], [], [], [], e14, [], [], [0, 1, 2, 3, 4, 5, 6, 7, 8, 9, 10, 11], [0, 1, 2, 3, 4, 5, 6, 7, 8, 9, 10, 11, 12]]) [[0, 1, 2, 3, 5, 6, 7, 8, 4, 9, 10, 11, 12, 13], [0, 1, 2, 3, 5, 6, 7, 8, 4, 9, 11, 10, 12, 13], [0, 1, 2, 3, 5, 6, 7, 8, 4, 10, 9, 11, 12, 13], [0, 1, 2, 3, 5, 6, 7, 8, 4, 10, 11, 9, 12, 13], [0, 1, 2, 3, 5, 6, 7, 8, 4, 11, 9, 10, 12, 13], [0, 1, 2, 3, 5, 6, 7, 8, 4, 11, 10, 9, 12, 13], [0, 1, 2, 3, 5, 6, 7, 8, 10, 4, 9, 11, 12, 13], [0, 1, 2, 3, 5, 6, 7, 8, 10, 4, 11, 9, 12, 13], [0, 1, 2, 3, 5, 6, 7, 8, 10, 11, 4, 9, 12, 13], [0, 1, 2, 3, 5, 6, 7, 8, 11, 4, 9, 10, 12, 13], [0, 1, 2, 3, 5, 6, 7, 8, 11, 4, 10, 9, 12, 13], [0, 1, 2, 3, 5, 6, 7, 8, 11, 10, 4, 9, 12, 13]] (by kernel_rfl) (by kernel_rfl) (NoPanic.seq (NoPanic.body)) ?_
  have hS167 := hS159.drew
  revert hS167
  generalize World.drew w158 = w166
  intro hS167
  refine ⟨⟨hS167.cell 0 rfl 0 rfl, hS167.cell 0 rfl 1 rfl, hS167.cell 0 rfl 2 rfl, hS167.cell 0 rfl 3 rfl, hS167.cell 0 rfl 4 rfl, hS167.cell 0 rfl 0 rfl, hS167.cell 0 rfl 1 rfl, hS167.cell 0 rfl 2 rfl, hS167.cell 0 rfl 3 rfl, hS167.cell 0 rfl 4 rfl, trivial⟩, forallC ?_ (forallC ?_ (forallC ?_ (forallC ?_ (forallC ?_ (forallC ?_ (forallC ?_ (forallC ?_ (forallC ?_ (forallC ?_ (forallC ?_ (forallC ?_ (forallN))))))))))))⟩
  ·
   refine segF 8 [.v e9, .v e7, .v e8, .v e10, .v e11, .v e9, .v e7, .v e8, .v e10, .v e11] e4 [e26, e24, e19, (10, (bv ((t22.1.Num == 0 && e20) && (t22.2.1.Num == 0 && e18)))), (101, e5), (102, (.agg e2)), (103, e6), e22, (106, e5), (107, (.agg e2)), (108, e6), e23] [] e13 e1 (fun fb => by kernel_rfl) rfl trivial rfl ?_
   obtain ⟨t168, ht169, hx165⟩ := bind_some hx165
   refine WL.call e34 19 #[e5, (.agg e2), e6, e35, (iv y161)] (fun fb => by kernel_rfl) (ref06_Sum_calls _ p0 p1 p2 false y161 Aa ca Ab cb Ac cc Ad cd Ae ce Af cf Ag cg t168 _ (hS167.rd 0) (hS167.rd 1) (hS167.rd 2) (hS167.rd 3) (hS167.rd 4) (hS167.rd 5) (hS167.rd 6) ht169) (fun v w170 hR171 => ?_)
   obtain ⟨rfl, hk_⟩ := hR171
   have hS172 := hS167.keepN hk_
   refine ⟨⟨hS172.cell 0 rfl 0 rfl, hS172.cell 0 rfl 1 rfl, hS172.cell 0 rfl 2 rfl, hS172.cell 0 rfl 3 rfl, hS172.cell 0 rfl 4 rfl, trivial⟩, ?_⟩
   obtain ⟨t173, ht174, hx165⟩ := bind_some hx165
   refine WL.call e36 19 #[e5, (.agg e2), e6, (bv true), (iv y161)] (fun fb => by kernel_rfl) (ref06_Sum_calls _ p0 p1 p2 true y161 Aa ca Ab cb Ac cc Ad cd Ae ce Af cf Ag cg t173 _ (hS172.rd 0) (hS172.rd 1) (hS172.rd 2) (hS172.rd 3) (hS172.rd 4) (hS172.rd 5) (hS172.rd 6) ht174) (fun v w175 hR176 => ?_)
   obtain ⟨rfl, hk_⟩ := hR176
   have hS177 := hS172.keepN hk_
   refine ⟨trivial, ?_⟩
   refine WL.new hS177 12 [] (fun g => (pt g)) (.cells e12 33 (0, 0)) [] (fun fb g => by kernel_rfl) trivial (fun g178 w179 hS180 => ?_)
   refine ⟨⟨hS180.cell 1 rfl 0 rfl, hS180.cell 1 rfl 1 rfl, hS180.cell 1 rfl 2 rfl, hS180.cell 1 rfl 3 rfl, hS180.cell 1 rfl 4 rfl, hS180.cell 1 rfl 0 rfl, hS180.cell 1 rfl 1 rfl, hS180.cell 1 rfl 2 rfl, hS180.cell 1 rfl 3 rfl, hS180.cell 1 rfl 4 rfl, trivial⟩, ?_⟩
   refine WL.new hS180 13 [] (fun g => (pt g)) (.cells e12 33 (0, 0)) [] (fun fb g => by kernel_rfl) trivial (fun g181 w182 hS183 => ?_)
   refine ⟨⟨hS183.cell 2 rfl 0 rfl, hS183.cell 2 rfl 1 rfl, hS183.cell 2 rfl 2 rfl, hS183.cell 2 rfl 3 rfl, hS183.cell 2 rfl 4 rfl, hS183.cell 2 rfl 0 rfl, hS183.cell 2 rfl 1 rfl, hS183.cell 2 rfl 2 rfl, hS183.cell 2 rfl 3 rfl, hS183.cell 2 rfl 4 rfl, trivial⟩, ?_⟩
   refine WL.store hS183 1 rfl [(0, (iv t168.Num)), (1, (iv t168.Den))] #[(iv t168.Num), (iv t168.Den)] (fun fb => by kernel_rfl) (by kernel_rfl) rfl e21 (by decide) (by decide) (fun w184 hS185 => ?_)
   refine ⟨trivial, ?_⟩
   refine WL.store hS185 1 rfl [(0, (iv t173.Num)), (1, (iv t173.Den))] #[(iv t173.Num), (iv t173.Den)] (fun fb => by kernel_rfl) (by kernel_rfl) rfl e21 (by decide) (by decide) (fun w186 hS187 => ?_)
   refine ⟨trivial, ?_⟩
   refine WL.done rfl ?_
   injection hx165 with hx165
   exact WX.to Kx164 ((t168.Num, t168.Den, t173.Num, t173.Den), g178, g181) e17 rfl ⟨(hS187.subR e14).sub e31 (by decide), hx165.symm⟩
  ·
   refine segF 8 [.v e9, .v e7, .v e8, .v e10, .v e11, .v e9, .v e7, .v e8, .v e10, .v e11] e4 [e26, e24, e19, (10, (bv ((t22.1.Num == 0 && e20) && (t22.2.1.Num == 0 && e18)))), (101, e5), (102, (.agg e2)), (103, e6), e22, (106, e5), (107, (.agg e2)), (108, e6), e23] [] e13 e1 (fun fb => by kernel_rfl) rfl trivial rfl ?_
   obtain ⟨t188, ht189, hx165⟩ := bind_some hx165
   refine WL.call e34 19 #[e5, (.agg e2), e6, e35, (iv y161)] (fun fb => by kernel_rfl) (ref06_Sum_calls _ p0 p1 p2 false y161 Aa ca Ab cb Ac cc Ad cd Ae ce Af cf Ag cg t188 _ (hS167.rd 0) (hS167.rd 1) (hS167.rd 2) (hS167.rd 3) (hS167.rd 4) (hS167.rd 5) (hS167.rd 6) ht189) (fun v w190 hR191 => ?_)
   obtain ⟨rfl, hk_⟩ := hR191
   have hS192 := hS167.keepN hk_
   refine ⟨⟨hS192.cell 0 rfl 0 rfl, hS192.cell 0 rfl 1 rfl, hS192.cell 0 rfl 2 rfl, hS192.cell 0 rfl 3 rfl, hS192.cell 0 rfl 4 rfl, trivial⟩, ?_⟩
   obtain ⟨t193, ht194, hx165⟩ := bind_some hx165
   refine WL.call e36 19 #[e5, (.agg e2), e6, (bv true), (iv y161)] (fun fb => by kernel_rfl) (ref06_Sum_calls _ p0 p1 p2 true y161 Aa ca Ab cb Ac cc Ad cd Ae ce Af cf Ag cg t193 _ (hS192.rd 0) (hS192.rd 1) (hS192.rd 2) (hS192.rd 3) (hS192.rd 4) (hS192.rd 5) (hS192.rd 6) ht194) (fun v w195 hR196 => ?_)
   obtain ⟨rfl, hk_⟩ := hR196
   have hS197 := hS192.keepN hk_
   refine ⟨trivial, ?_⟩
   refine WL.new hS197 13 [] (fun g => (pt g)) (.cells e12 33 (0, 0)) [] (fun fb g => by kernel_rfl) trivial (fun g198 w199 hS200 => ?_)
   refine ⟨⟨hS200.cell 1 rfl 0 rfl, hS200.cell 1 rfl 1 rfl, hS200.cell 1 rfl 2 rfl, hS200.cell 1 rfl 3 rfl, hS200.cell 1 rfl 4 rfl, hS200.cell 1 rfl 0 rfl, hS200.cell 1 rfl 1 rfl, hS200.cell 1 rfl 2 rfl, hS200.cell 1 rfl 3 rfl, hS200.cell 1 rfl 4 rfl, trivial⟩, ?_⟩
   refine WL.new hS200 12 [] (fun g => (pt g)) (.cells e12 33 (0, 0)) [] (fun fb g => by kernel_rfl) trivial (fun g201 w202 hS203 => ?_)
   refine ⟨⟨hS203.cell 2 rfl 0 rfl, hS203.cell 2 rfl 1 rfl, hS203.cell 2 rfl 2 rfl, hS203.cell 2 rfl 3 rfl, hS203.cell 2 rfl 4 rfl, hS203.cell 2 rfl 0 rfl, hS203.cell 2 rfl 1 rfl, hS203.cell 2 rfl 2 rfl, hS203.cell 2 rfl 3 rfl, hS203.cell 2 rfl 4 rfl, trivial⟩, ?_⟩
   refine WL.store hS203 0 rfl [(0, (iv t188.Num)), (1, (iv t188.Den))] #[(iv t188.Num), (iv t188.Den)] (fun fb => by kernel_rfl) (by kernel_rfl) rfl [1, 2, 3, 4] (by decide) (by decide) (fun w204 hS205 => ?_)
   refine ⟨trivial, ?_⟩
   refine WL.store hS205 1 rfl [(0, (iv t193.Num)), (1, (iv t193.Den))] #[(iv t193.Num), (iv t193.Den)] (fun fb => by kernel_rfl) (by kernel_rfl) rfl e21 (by decide) (by decide) (fun w206 hS207 => ?_)
   refine ⟨trivial, ?_⟩
   refine WL.done rfl ?_
   injection hx165 with hx165
   exact WX.to Kx164 ((t188.Num, t188.Den, t193.Num, t193.Den), g201, g198) e17 rfl ⟨(hS207.subR e14).sub e31 (by decide), hx165.symm⟩
  ·
   refine segF 8 [.v e9, .v e7, .v e8, .v e10, .v e11, .v e9, .v e7, .v e8, .v e10, .v e11] e4 [e26, e24, e19, (10, (bv ((t22.1.Num == 0 && e20) && (t22.2.1.Num == 0 && e18)))), (101, e5), (102, (.agg e2)), (103, e6), e22, (106, e5), (107, (.agg e2)), (108, e6), e23] [] e13 e1 (fun fb => by kernel_rfl) rfl trivial rfl ?_
   obtain ⟨t208, ht209, hx165⟩ := bind_some hx165
   refine WL.call e34 19 #[e5, (.agg e2), e6, e35, (iv y161)] (fun fb => by kernel_rfl) (ref06_Sum_calls _ p0 p1 p2 false y161 Aa ca Ab cb Ac cc Ad cd Ae ce Af cf Ag cg t208 _ (hS167.rd 0) (hS167.rd 1) (hS167.rd 2) (hS167.rd 3) (hS167.rd 4) (hS167.rd 5) (hS167.rd 6) ht209) (fun v w210 hR211 => ?_)
   obtain ⟨rfl, hk_⟩ := hR211
   have hS212 := hS167.keepN hk_
   refine ⟨⟨hS212.cell 0 rfl 0 rfl, hS212.cell 0 rfl 1 rfl, hS212.cell 0 rfl 2 rfl, hS212.cell 0 rfl 3 rfl, hS212.cell 0 rfl 4 rfl, trivial⟩, ?_⟩
   refine WL.new hS212 12 [] (fun g => (pt g)) (.cells e12 33 (0, 0)) [] (fun fb g => by kernel_rfl) trivial (fun g213 w214 hS215 => ?_)
   refine ⟨⟨hS215.cell 1 rfl 0 rfl, hS215.cell 1 rfl 1 rfl, hS215.cell 1 rfl 2 rfl, hS215.cell 1 rfl 3 rfl, hS215.cell 1 rfl 4 rfl, hS215.cell 1 rfl 0 rfl, hS215.cell 1 rfl 1 rfl, hS215.cell 1 rfl 2 rfl, hS215.cell 1 rfl 3 rfl, hS215.cell 1 rfl 4 rfl, trivial⟩, ?_⟩
   obtain ⟨t216, ht217, hx165⟩ := bind_some hx165
   refine WL.call e36 19 #[e5, (.agg e2), e6, (bv true), (iv y161)] (fun fb => by kernel_rfl) (ref06_Sum_calls _ p0 p1 p2 true y161 Aa ca Ab cb Ac cc Ad cd Ae ce Af cf Ag cg t216 _ (hS215.rd 0) (hS215.rd 1) (hS215.rd 2) (hS215.rd 3) (hS215.rd 4) (hS215.rd 5) (hS215.rd 6) ht217) (fun v w218 hR219 => ?_)
   obtain ⟨rfl, hk_⟩ := hR219
   have hS220 := hS215.keepN hk_
   refine ⟨trivial, ?_⟩
   refine WL.new hS220 13 [] (fun g => (pt g)) (.cells e12 33 (0, 0)) [] (fun fb g => by kernel_rfl) trivial (fun g221 w222 hS223 => ?_)
   refine ⟨⟨hS223.cell 2 rfl 0 rfl, hS223.cell 2 rfl 1 rfl, hS223.cell 2 rfl 2 rfl, hS223.cell 2 rfl 3 rfl, hS223.cell 2 rfl 4 rfl, hS223.cell 2 rfl 0 rfl, hS223.cell 2 rfl 1 rfl, hS223.cell 2 rfl 2 rfl, hS223.cell 2 rfl 3 rfl, hS223.cell 2 rfl 4 rfl, trivial⟩, ?_⟩
   refine WL.store hS223 1 rfl [(0, (iv t208.Num)), (1, (iv t208.Den))] #[(iv t208.Num), (iv t208.Den)] (fun fb => by kernel_rfl) (by kernel_rfl) rfl e21 (by decide) (by decide) (fun w224 hS225 => ?_)
   refine ⟨trivial, ?_⟩
   refine WL.store hS225 1 rfl [(0, (iv t216.Num)), (1, (iv t216.Den))] #[(iv t216.Num), (iv t216.Den)] (fun fb => by kernel_rfl) (by kernel_rfl) rfl e21 (by decide) (by decide) (fun w226 hS227 => ?_)
   refine ⟨trivial, ?_⟩
   refine WL.done rfl ?_
   injection hx165 with hx165
   exact WX.to Kx164 ((t208.Num, t208.Den, t216.Num, t216.Den), g213, g221) e17 rfl ⟨(hS227.subR e14).sub e31 (by decide), hx165.symm⟩
  ·
   refine segF 8 [.v e9, .v e7, .v e8, .v e10, .v e11, .v e9, .v e7, .v e8, .v e10, .v e11] e4 [e26, e24, e19, (10, (bv ((t22.1.Num == 0 && e20) && (t22.2.1.Num == 0 && e18)))), (101, e5), (102, (.agg e2)), (103, e6), e22, (106, e5), (107, (.agg e2)), (108, e6), e23] [] e13 e1 (fun fb => by kernel_rfl) rfl trivial rfl ?_
   obtain ⟨t228, ht229, hx165⟩ := bind_some hx165
   refine WL.call e34 19 #[e5, (.agg e2), e6, e35, (iv y161)] (fun fb => by kernel_rfl) (ref06_Sum_calls _ p0 p1 p2 false y161 Aa ca Ab cb Ac cc Ad cd Ae ce Af cf Ag cg t228 _ (hS167.rd 0) (hS167.rd 1) (hS167.rd 2) (hS167.rd 3) (hS167.rd 4) (hS167.rd 5) (hS167.rd 6) ht229) (fun v w230 hR231 => ?_)
   obtain ⟨rfl, hk_⟩ := hR231
   have hS232 := hS167.keepN hk_
   refine ⟨⟨hS232.cell 0 rfl 0 rfl, hS232.cell 0 rfl 1 rfl, hS232.cell 0 rfl 2 rfl, hS232.cell 0 rfl 3 rfl, hS232.cell 0 rfl 4 rfl, trivial⟩, ?_⟩
   refine WL.new hS232 12 [] (fun g => (pt g)) (.cells e12 33 (0, 0)) [] (fun fb g => by kernel_rfl) trivial (fun g233 w234 hS235 => ?_)
   refine ⟨⟨hS235.cell 1 rfl 0 rfl, hS235.cell 1 rfl 1 rfl, hS235.cell 1 rfl 2 rfl, hS235.cell 1 rfl 3 rfl, hS235.cell 1 rfl 4 rfl, hS235.cell 1 rfl 0 rfl, hS235.cell 1 rfl 1 rfl, hS235.cell 1 rfl 2 rfl, hS235.cell 1 rfl 3 rfl, hS235.cell 1 rfl 4 rfl, trivial⟩, ?_⟩
   refine WL.new hS235 13 [] (fun g => (pt g)) (.cells e12 33 (0, 0)) [] (fun fb g => by kernel_rfl) trivial (fun g236 w237 hS238 => ?_)
   refine ⟨⟨hS238.cell 2 rfl 0 rfl, hS238.cell 2 rfl 1 rfl, hS238.cell 2 rfl 2 rfl, hS238.cell 2 rfl 3 rfl, hS238.cell 2 rfl 4 rfl, hS238.cell 2 rfl 0 rfl, hS238.cell 2 rfl 1 rfl, hS238.cell 2 rfl 2 rfl, hS238.cell 2 rfl 3 rfl, hS238.cell 2 rfl 4 rfl, trivial⟩, ?_⟩
   obtain ⟨t239, ht240, hx165⟩ := bind_some hx165
   refine WL.call e36 19 #[e5, (.agg e2), e6, (bv true), (iv y161)] (fun fb => by kernel_rfl) (ref06_Sum_calls _ p0 p1 p2 true y161 Aa ca Ab cb Ac cc Ad cd Ae ce Af cf Ag cg t239 _ (hS238.rd 0) (hS238.rd 1) (hS238.rd 2) (hS238.rd 3) (hS238.rd 4) (hS238.rd 5) (hS238.rd 6) ht240) (fun v w241 hR242 => ?_)
   obtain ⟨rfl, hk_⟩ := hR242
   have hS243 := hS238.keepN hk_
   refine ⟨trivial, ?_⟩
   refine WL.store hS243 1 rfl [(0, (iv t228.Num)), (1, (iv t228.Den))] #[(iv t228.Num), (iv t228.Den)] (fun fb => by kernel_rfl) (by kernel_rfl) rfl e21 (by decide) (by decide) (fun w244 hS245 => ?_)
   refine ⟨trivial, ?_⟩
   refine WL.store hS245 1 rfl [(0, (iv t239.Num)), (1, (iv t239.Den))] #[(iv t239.Num), (iv t239.Den)] (fun fb => by kernel_rfl) (by kernel_rfl) rfl e21 (by decide) (by decide) (fun w246 hS247 => ?_)
   refine ⟨trivial, ?_⟩
   refine WL.done rfl ?_
   injection hx165 with hx165
   exact WX.to Kx164 ((t228.Num, t228.Den, t239.Num, t239.Den), g233, g236) e17 rfl ⟨(hS247.subR e14).sub e31 (by decide), hx165.symm⟩
  ·
   refine segF 8 [.v e9, .v e7, .v e8, .v e10, .v e11, .v e9, .v e7, .v e8, .v e10, .v e11] e4 [e26, e24, e19, (10, (bv ((t22.1.Num == 0 && e20) && (t22.2.1.Num == 0 && e18)))), (101, e5), (102, (.agg e2)), (103, e6), e22, (106, e5), (107, (.agg e2)), (108, e6), e23] [] e13 e1 (fun fb => by kernel_rfl) rfl trivial rfl ?_
   obtain ⟨t248, ht249, hx165⟩ := bind_some hx165
   refine WL.call e34 19 #[e5, (.agg e2), e6, e35, (iv y161)] (fun fb => by kernel_rfl) (ref06_Sum_calls _ p0 p1 p2 false y161 Aa ca Ab cb Ac cc Ad cd Ae ce Af cf Ag cg t248 _ (hS167.rd 0) (hS167.rd 1) (hS167.rd 2) (hS167.rd 3) (hS167.rd 4) (hS167.rd 5) (hS167.rd 6) ht249) (fun v w250 hR251 => ?_)
   obtain ⟨rfl, hk_⟩ := hR251
   have hS252 := hS167.keepN hk_
   refine ⟨⟨hS252.cell 0 rfl 0 rfl, hS252.cell 0 rfl 1 rfl, hS252.cell 0 rfl 2 rfl, hS252.cell 0 rfl 3 rfl, hS252.cell 0 rfl 4 rfl, trivial⟩, ?_⟩
   refine WL.new hS252 13 [] (fun g => (pt g)) (.cells e12 33 (0, 0)) [] (fun fb g => by kernel_rfl) trivial (fun g253 w254 hS255 => ?_)
   refine ⟨⟨hS255.cell 1 rfl 0 rfl, hS255.cell 1 rfl 1 rfl, hS255.cell 1 rfl 2 rfl, hS255.cell 1 rfl 3 rfl, hS255.cell 1 rfl 4 rfl, hS255.cell 1 rfl 0 rfl, hS255.cell 1 rfl 1 rfl, hS255.cell 1 rfl 2 rfl, hS255.cell 1 rfl 3 rfl, hS255.cell 1 rfl 4 rfl, trivial⟩, ?_⟩
   obtain ⟨t256, ht257, hx165⟩ := bind_some hx165
   refine WL.call e36 19 #[e5, (.agg e2), e6, (bv true), (iv y161)] (fun fb => by kernel_rfl) (ref06_Sum_calls _ p0 p1 p2 true y161 Aa ca Ab cb Ac cc Ad cd Ae ce Af cf Ag cg t256 _ (hS255.rd 0) (hS255.rd 1) (hS255.rd 2) (hS255.rd 3) (hS255.rd 4) (hS255.rd 5) (hS255.rd 6) ht257) (fun v w258 hR259 => ?_)
   obtain ⟨rfl, hk_⟩ := hR259
   have hS260 := hS255.keepN hk_
   refine ⟨trivial, ?_⟩
   refine WL.new hS260 12 [] (fun g => (pt g)) (.cells e12 33 (0, 0)) [] (fun fb g => by kernel_rfl) trivial (fun g261 w262 hS263 => ?_)
   refine ⟨⟨hS263.cell 2 rfl 0 rfl, hS263.cell 2 rfl 1 rfl, hS263.cell 2 rfl 2 rfl, hS263.cell 2 rfl 3 rfl, hS263.cell 2 rfl 4 rfl, hS263.cell 2 rfl 0 rfl, hS263.cell 2 rfl 1 rfl, hS263.cell 2 rfl 2 rfl, hS263.cell 2 rfl 3 rfl, hS263.cell 2 rfl 4 rfl, trivial⟩, ?_⟩
   refine WL.store hS263 0 rfl [(0, (iv t248.Num)), (1, (iv t248.Den))] #[(iv t248.Num), (iv t248.Den)] (fun fb => by kernel_rfl) (by kernel_rfl) rfl [1, 2, 3, 4] (by decide) (by decide) (fun w264 hS265 => ?_)
   refine ⟨trivial, ?_⟩
   refine WL.store hS265 1 rfl [(0, (iv t256.Num)), (1, (iv t256.Den))] #[(iv t256.Num), (iv t256.Den)] (fun fb => by kernel_rfl) (by kernel_rfl) rfl e21 (by decide) (by decide) (fun w266 hS267 => ?_)
   refine ⟨trivial, ?_⟩
   refine WL.done rfl ?_
   injection hx165 with hx165
   exact WX.to Kx164 ((t248.Num, t248.Den, t256.Num, t256.Den), g261, g253) e17 rfl ⟨(hS267.subR e14).sub e31 (by decide), hx165.symm⟩
  ·
   refine segF 8 [.v e9, .v e7, .v e8, .v e10, .v e11, .v e9, .v e7, .v e8, .v e10, .v e11] e4 [e26, e24, e19, (10, (bv ((t22.1.Num == 0 && e20) && (t22.2.1.Num == 0 && e18)))), (101, e5), (102, (.agg e2)), (103, e6), e22, (106, e5), (107, (.agg e2)), (108, e6), e23] [] e13 e1 (fun fb => by kernel_rfl) rfl trivial rfl ?_
   obtain ⟨t268, ht269, hx165⟩ := bind_some hx165
   refine WL.call e34 19 #[e5, (.agg e2), e6, e35, (iv y161)] (fun fb => by kernel_rfl) (ref06_Sum_calls _ p0 p1 p2 false y161 Aa ca Ab cb Ac cc Ad cd Ae ce Af cf Ag cg t268 _ (hS167.rd 0) (hS167.rd 1) (hS167.rd 2) (hS167.rd 3) (hS167.rd 4) (hS167.rd 5) (hS167.rd 6) ht269) (fun v w270 hR271 => ?_)
   obtain ⟨rfl, hk_⟩ := hR271
   have hS272 := hS167.keepN hk_
   refine ⟨⟨hS272.cell 0 rfl 0 rfl, hS272.cell 0 rfl 1 rfl, hS272.cell 0 rfl 2 rfl, hS272.cell 0 rfl 3 rfl, hS272.cell 0 rfl 4 rfl, trivial⟩, ?_⟩
   refine WL.new hS272 13 [] (fun g => (pt g)) (.cells e12 33 (0, 0)) [] (fun fb g => by kernel_rfl) trivial (fun g273 w274 hS275 => ?_)
   refine ⟨⟨hS275.cell 1 rfl 0 rfl, hS275.cell 1 rfl 1 rfl, hS275.cell 1 rfl 2 rfl, hS275.cell 1 rfl 3 rfl, hS275.cell 1 rfl 4 rfl, hS275.cell 1 rfl 0 rfl, hS275.cell 1 rfl 1 rfl, hS275.cell 1 rfl 2 rfl, hS275.cell 1 rfl 3 rfl, hS275.cell 1 rfl 4 rfl, trivial⟩, ?_⟩
   refine WL.new hS275 12 [] (fun g => (pt g)) (.cells e12 33 (0, 0)) [] (fun fb g => by kernel_rfl) trivial (fun g276 w277 hS278 => ?_)
   refine ⟨⟨hS278.cell 2 rfl 0 rfl, hS278.cell 2 rfl 1 rfl, hS278.cell 2 rfl 2 rfl, hS278.cell 2 rfl 3 rfl, hS278.cell 2 rfl 4 rfl, hS278.cell 2 rfl 0 rfl, hS278.cell 2 rfl 1 rfl, hS278.cell 2 rfl 2 rfl, hS278.cell 2 rfl 3 rfl, hS278.cell 2 rfl 4 rfl, trivial⟩, ?_⟩
   obtain ⟨t279, ht280, hx165⟩ := bind_some hx165
   refine WL.call e36 19 #[e5, (.agg e2), e6, (bv true), (iv y161)] (fun fb => by kernel_rfl) (ref06_Sum_calls _ p0 p1 p2 true y161 Aa ca Ab cb Ac cc Ad cd Ae ce Af cf Ag cg t279 _ (hS278.rd 0) (hS278.rd 1) (hS278.rd 2) (hS278.rd 3) (hS278.rd 4) (hS278.rd 5) (hS278.rd 6) ht280) (fun v w281 hR282 => ?_)
   obtain ⟨rfl, hk_⟩ := hR282
   have hS283 := hS278.keepN hk_
   refine ⟨trivial, ?_⟩
   refine WL.store hS283 0 rfl [(0, (iv t268.Num)), (1, (iv t268.Den))] #[(iv t268.Num), (iv t268.Den)] (fun fb => by kernel_rfl) (by kernel_rfl) rfl [1, 2, 3, 4] (by decide) (by decide) (fun w284 hS285 => ?_)
   refine ⟨trivial, ?_⟩
   refine WL.store hS285 1 rfl [(0, (iv t279.Num)), (1, (iv t279.Den))] #[(iv t279.Num), (iv t279.Den)] (fun fb => by kernel_rfl) (by kernel_rfl) rfl e21 (by decide) (by decide) (fun w286 hS287 => ?_)
   refine ⟨trivial, ?_⟩
   refine WL.done rfl ?_
   injection hx165 with hx165
   exact WX.to Kx164 ((t268.Num, t268.Den, t279.Num, t279.Den), g276, g273) e17 rfl ⟨(hS287.subR e14).sub e31 (by decide), hx165.symm⟩
  ·
   refine segF 8 [.v e9, .v e7, .v e8, .v e10, .v e11, .v e9, .v e7, .v e8, .v e10, .v e11] e4 [e26, e24, e19, (10, (bv ((t22.1.Num == 0 && e20) && (t22.2.1.Num == 0 && e18)))), (101, e5), (102, (.agg e2)), (103, e6), e22, (106, e5), (107, (.agg e2)), (108, e6), e23] [] e13 e1 (fun fb => by kernel_rfl) rfl trivial rfl ?_
   refine WL.new hS167 12 [] (fun g => (pt g)) (.cells e12 33 (0, 0)) [] (fun fb g => by kernel_rfl) trivial (fun g288 w289 hS290 => ?_)
   refine ⟨⟨hS290.cell 1 rfl 0 rfl, hS290.cell 1 rfl 1 rfl, hS290.cell 1 rfl 2 rfl, hS290.cell 1 rfl 3 rfl, hS290.cell 1 rfl 4 rfl, hS290.cell 1 rfl 0 rfl, hS290.cell 1 rfl 1 rfl, hS290.cell 1 rfl 2 rfl, hS290.cell 1 rfl 3 rfl, hS290.cell 1 rfl 4 rfl, trivial⟩, ?_⟩
   obtain ⟨t291, ht292, hx165⟩ := bind_some hx165
   refine WL.call e34 19 #[e5, (.agg e2), e6, e35, (iv y161)] (fun fb => by kernel_rfl) (ref06_Sum_calls _ p0 p1 p2 false y161 Aa ca Ab cb Ac cc Ad cd Ae ce Af cf Ag cg t291 _ (hS290.rd 0) (hS290.rd 1) (hS290.rd 2) (hS290.rd 3) (hS290.rd 4) (hS290.rd 5) (hS290.rd 6) ht292) (fun v w293 hR294 => ?_)
   obtain ⟨rfl, hk_⟩ := hR294
   have hS295 := hS290.keepN hk_
   refine ⟨⟨hS295.cell 1 rfl 0 rfl, hS295.cell 1 rfl 1 rfl, hS295.cell 1 rfl 2 rfl, hS295.cell 1 rfl 3 rfl, hS295.cell 1 rfl 4 rfl, trivial⟩, ?_⟩
   obtain ⟨t296, ht297, hx165⟩ := bind_some hx165
   refine WL.call e36 19 #[e5, (.agg e2), e6, (bv true), (iv y161)] (fun fb => by kernel_rfl) (ref06_Sum_calls _ p0 p1 p2 true y161 Aa ca Ab cb Ac cc Ad cd Ae ce Af cf Ag cg t296 _ (hS295.rd 0) (hS295.rd 1) (hS295.rd 2) (hS295.rd 3) (hS295.rd 4) (hS295.rd 5) (hS295.rd 6) ht297) (fun v w298 hR299 => ?_)
   obtain ⟨rfl, hk_⟩ := hR299
   have hS300 := hS295.keepN hk_
   refine ⟨trivial, ?_⟩
   refine WL.new hS300 13 [] (fun g => (pt g)) (.cells e12 33 (0, 0)) [] (fun fb g => by kernel_rfl) trivial (fun g301 w302 hS303 => ?_)
   refine ⟨⟨hS303.cell 2 rfl 0 rfl, hS303.cell 2 rfl 1 rfl, hS303.cell 2 rfl 2 rfl, hS303.cell 2 rfl 3 rfl, hS303.cell 2 rfl 4 rfl, hS303.cell 2 rfl 0 rfl, hS303.cell 2 rfl 1 rfl, hS303.cell 2 rfl 2 rfl, hS303.cell 2 rfl 3 rfl, hS303.cell 2 rfl 4 rfl, trivial⟩, ?_⟩
   refine WL.store hS303 1 rfl [(0, (iv t291.Num)), (1, (iv t291.Den))] #[(iv t291.Num), (iv t291.Den)] (fun fb => by kernel_rfl) (by kernel_rfl) rfl e21 (by decide) (by decide) (fun w304 hS305 => ?_)
   refine ⟨trivial, ?_⟩
   refine WL.store hS305 1 rfl [(0, (iv t296.Num)), (1, (iv t296.Den))] #[(iv t296.Num), (iv t296.Den)] (fun fb => by kernel_rfl) (by kernel_rfl) rfl e21 (by decide) (by decide) (fun w306 hS307 => ?_)
   refine ⟨trivial, ?_⟩
   refine WL.done rfl ?_
   injection hx165 with hx165
   exact WX.to Kx164 ((t291.Num, t291.Den, t296.Num, t296.Den), g288, g301) e17 rfl ⟨(hS307.subR e14).sub e31 (by decide), hx165.symm⟩
  ·
   refine segF 8 [.v e9, .v e7, .v e8, .v e10, .v e11, .v e9, .v e7, .v e8, .v e10, .v e11] e4 [e26, e24, e19, (10, (bv ((t22.1.Num == 0 && e20) && (t22.2.1.Num == 0 && e18)))), (101, e5), (102, (.agg e2)), (103, e6), e22, (106, e5), (107, (.agg e2)), (108, e6), e23] [] e13 e1 (fun fb => by kernel_rfl) rfl trivial rfl ?_
   refine WL.new hS167 12 [] (fun g => (pt g)) (.cells e12 33 (0, 0)) [] (fun fb g => by kernel_rfl) trivial (fun g308 w309 hS310 => ?_)
   refine ⟨⟨hS310.cell 1 rfl 0 rfl, hS310.cell 1 rfl 1 rfl, hS310.cell 1 rfl 2 rfl, hS310.cell 1 rfl 3 rfl, hS310.cell 1 rfl 4 rfl, hS310.cell 1 rfl 0 rfl, hS310.cell 1 rfl 1 rfl, hS310.cell 1 rfl 2 rfl, hS310.cell 1 rfl 3 rfl, hS310.cell 1 rfl 4 rfl, trivial⟩, ?_⟩
   obtain ⟨t311, ht312, hx165⟩ := bind_some hx165
   refine WL.call e34 19 #[e5, (.agg e2), e6, e35, (iv y161)] (fun fb => by kernel_rfl) (ref06_Sum_calls _ p0 p1 p2 false y161 Aa ca Ab cb Ac cc Ad cd Ae ce Af cf Ag cg t311 _ (hS310.rd 0) (hS310.rd 1) (hS310.rd 2) (hS310.rd 3) (hS310.rd 4) (hS310.rd 5) (hS310.rd 6) ht312) (fun v w313 hR314 => ?_)
   obtain ⟨rfl, hk_⟩ := hR314
   have hS315 := hS310.keepN hk_
   refine ⟨⟨hS315.cell 1 rfl 0 rfl, hS315.cell 1 rfl 1 rfl, hS315.cell 1 rfl 2 rfl, hS315.cell 1 rfl 3 rfl, hS315.cell 1 rfl 4 rfl, trivial⟩, ?_⟩
   refine WL.new hS315 13 [] (fun g => (pt g)) (.cells e12 33 (0, 0)) [] (fun fb g => by kernel_rfl) trivial (fun g316 w317 hS318 => ?_)
   refine ⟨⟨hS318.cell 2 rfl 0 rfl, hS318.cell 2 rfl 1 rfl, hS318.cell 2 rfl 2 rfl, hS318.cell 2 rfl 3 rfl, hS318.cell 2 rfl 4 rfl, hS318.cell 2 rfl 0 rfl, hS318.cell 2 rfl 1 rfl, hS318.cell 2 rfl 2 rfl, hS318.cell 2 rfl 3 rfl, hS318.cell 2 rfl 4 rfl, trivial⟩, ?_⟩
   obtain ⟨t319, ht320, hx165⟩ := bind_some hx165
   refine WL.call e36 19 #[e5, (.agg e2), e6, (bv true), (iv y161)] (fun fb => by kernel_rfl) (ref06_Sum_calls _ p0 p1 p2 true y161 Aa ca Ab cb Ac cc Ad cd Ae ce Af cf Ag cg t319 _ (hS318.rd 0) (hS318.rd 1) (hS318.rd 2) (hS318.rd 3) (hS318.rd 4) (hS318.rd 5) (hS318.rd 6) ht320) (fun v w321 hR322 => ?_)
   obtain ⟨rfl, hk_⟩ := hR322
   have hS323 := hS318.keepN hk_
   refine ⟨trivial, ?_⟩
   refine WL.store hS323 1 rfl [(0, (iv t311.Num)), (1, (iv t311.Den))] #[(iv t311.Num), (iv t311.Den)] (fun fb => by kernel_rfl) (by kernel_rfl) rfl e21 (by decide) (by decide) (fun w324 hS325 => ?_)
   refine ⟨trivial, ?_⟩
   refine WL.store hS325 1 rfl [(0, (iv t319.Num)), (1, (iv t319.Den))] #[(iv t319.Num), (iv t319.Den)] (fun fb => by kernel_rfl) (by kernel_rfl) rfl e21 (by decide) (by decide) (fun w326 hS327 => ?_)
   refine ⟨trivial, ?_⟩
   refine WL.done rfl ?_
   injection hx165 with hx165
   exact WX.to Kx164 ((t311.Num, t311.Den, t319.Num, t319.Den), g308, g316) e17 rfl ⟨(hS327.subR e14).sub e31 (by decide), hx165.symm⟩
  ·
   refine segF 8 [.v e9, .v e7, .v e8, .v e10, .v e11, .v e9, .v e7, .v e8, .v e10, .v e11] e4 [e26, e24, e19, (10, (bv ((t22.1.Num == 0 && e20) && (t22.2.1.Num == 0 && e18)))), (101, e5), (102, (.agg e2)), (103, e6), e22, (106, e5), (107, (.agg e2)), (108, e6), e23] [] e13 e1 (fun fb => by kernel_rfl) rfl trivial rfl ?_
   refine WL.new hS167 12 [] (fun g => (pt g)) (.cells e12 33 (0, 0)) [] (fun fb g => by kernel_rfl) trivial (fun g328 w329 hS330 => ?_)
   refine ⟨⟨hS330.cell 1 rfl 0 rfl, hS330.cell 1 rfl 1 rfl, hS330.cell 1 rfl 2 rfl, hS330.cell 1 rfl 3 rfl, hS330.cell 1 rfl 4 rfl, hS330.cell 1 rfl 0 rfl, hS330.cell 1 rfl 1 rfl, hS330.cell 1 rfl 2 rfl, hS330.cell 1 rfl 3 rfl, hS330.cell 1 rfl 4 rfl, trivial⟩, ?_⟩
   refine WL.new hS330 13 [] (fun g => (pt g)) (.cells e12 33 (0, 0)) [] (fun fb g => by kernel_rfl) trivial (fun g331 w332 hS333 => ?_)
   refine ⟨⟨hS333.cell 2 rfl 0 rfl, hS333.cell 2 rfl 1 rfl, hS333.cell 2 rfl 2 rfl, hS333.cell 2 rfl 3 rfl, hS333.cell 2 rfl 4 rfl, hS333.cell 2 rfl 0 rfl, hS333.cell 2 rfl 1 rfl, hS333.cell 2 rfl 2 rfl, hS333.cell 2 rfl 3 rfl, hS333.cell 2 rfl 4 rfl, trivial⟩, ?_⟩
   obtain ⟨t334, ht335, hx165⟩ := bind_some hx165
   refine WL.call e34 19 #[e5, (.agg e2), e6, e35, (iv y161)] (fun fb => by kernel_rfl) (ref06_Sum_calls _ p0 p1 p2 false y161 Aa ca Ab cb Ac cc Ad cd Ae ce Af cf Ag cg t334 _ (hS333.rd 0) (hS333.rd 1) (hS333.rd 2) (hS333.rd 3) (hS333.rd 4) (hS333.rd 5) (hS333.rd 6) ht335) (fun v w336 hR337 => ?_)
   obtain ⟨rfl, hk_⟩ := hR337
   have hS338 := hS333.keepN hk_
   refine ⟨⟨hS338.cell 2 rfl 0 rfl, hS338.cell 2 rfl 1 rfl, hS338.cell 2 rfl 2 rfl, hS338.cell 2 rfl 3 rfl, hS338.cell 2 rfl 4 rfl, trivial⟩, ?_⟩
   obtain ⟨t339, ht340, hx165⟩ := bind_some hx165
   refine WL.call e36 19 #[e5, (.agg e2), e6, (bv true), (iv y161)] (fun fb => by kernel_rfl) (ref06_Sum_calls _ p0 p1 p2 true y161 Aa ca Ab cb Ac cc Ad cd Ae ce Af cf Ag cg t339 _ (hS338.rd 0) (hS338.rd 1) (hS338.rd 2) (hS338.rd 3) (hS338.rd 4) (hS338.rd 5) (hS338.rd 6) ht340) (fun v w341 hR342 => ?_)
   obtain ⟨rfl, hk_⟩ := hR342
   have hS343 := hS338.keepN hk_
   refine ⟨trivial, ?_⟩
   refine WL.store hS343 1 rfl [(0, (iv t334.Num)), (1, (iv t334.Den))] #[(iv t334.Num), (iv t334.Den)] (fun fb => by kernel_rfl) (by kernel_rfl) rfl e21 (by decide) (by decide) (fun w344 hS345 => ?_)
   refine ⟨trivial, ?_⟩
   refine WL.store hS345 1 rfl [(0, (iv t339.Num)), (1, (iv t339.Den))] #[(iv t339.Num), (iv t339.Den)] (fun fb => by kernel_rfl) (by kernel_rfl) rfl e21 (by decide) (by decide) (fun w346 hS347 => ?_)
   refine ⟨trivial, ?_⟩
   refine WL.done rfl ?_
   injection hx165 with hx165
   exact WX.to Kx164 ((t334.Num, t334.Den, t339.Num, t339.Den), g328, g331) e17 rfl ⟨(hS347.subR e14).sub e31 (by decide), hx165.symm⟩
  ·
   refine segF 8 [.v e9, .v e7, .v e8, .v e10, .v e11, .v e9, .v e7, .v e8, .v e10, .v e11] e4 [e26, e24, e19, (10, (bv ((t22.1.Num == 0 && e20) && (t22.2.1.Num == 0 && e18)))), (101, e5), (102, (.agg e2)), (103, e6), e22, (106, e5), (107, (.agg e2)), (108, e6), e23] [] e13 e1 (fun fb => by kernel_rfl) rfl trivial rfl ?_
   refine WL.new hS167 13 [] (fun g => (pt g)) (.cells e12 33 (0, 0)) [] (fun fb g => by kernel_rfl) trivial (fun g348 w349 hS350 => ?_)
   refine ⟨⟨hS350.cell 1 rfl 0 rfl, hS350.cell 1 rfl 1 rfl, hS350.cell 1 rfl 2 rfl, hS350.cell 1 rfl 3 rfl, hS350.cell 1 rfl 4 rfl, hS350.cell 1 rfl 0 rfl, hS350.cell 1 rfl 1 rfl, hS350.cell 1 rfl 2 rfl, hS350.cell 1 rfl 3 rfl, hS350.cell 1 rfl 4 rfl, trivial⟩, ?_⟩
   obtain ⟨t351, ht352, hx165⟩ := bind_some hx165
   refine WL.call e34 19 #[e5, (.agg e2), e6, e35, (iv y161)] (fun fb => by kernel_rfl) (ref06_Sum_calls _ p0 p1 p2 false y161 Aa ca Ab cb Ac cc Ad cd Ae ce Af cf Ag cg t351 _ (hS350.rd 0) (hS350.rd 1) (hS350.rd 2) (hS350.rd 3) (hS350.rd 4) (hS350.rd 5) (hS350.rd 6) ht352) (fun v w353 hR354 => ?_)
   obtain ⟨rfl, hk_⟩ := hR354
   have hS355 := hS350.keepN hk_
   refine ⟨⟨hS355.cell 1 rfl 0 rfl, hS355.cell 1 rfl 1 rfl, hS355.cell 1 rfl 2 rfl, hS355.cell 1 rfl 3 rfl, hS355.cell 1 rfl 4 rfl, trivial⟩, ?_⟩
   obtain ⟨t356, ht357, hx165⟩ := bind_some hx165
   refine WL.call e36 19 #[e5, (.agg e2), e6, (bv true), (iv y161)] (fun fb => by kernel_rfl) (ref06_Sum_calls _ p0 p1 p2 true y161 Aa ca Ab cb Ac cc Ad cd Ae ce Af cf Ag cg t356 _ (hS355.rd 0) (hS355.rd 1) (hS355.rd 2) (hS355.rd 3) (hS355.rd 4) (hS355.rd 5) (hS355.rd 6) ht357) (fun v w358 hR359 => ?_)
   obtain ⟨rfl, hk_⟩ := hR359
   have hS360 := hS355.keepN hk_
   refine ⟨trivial, ?_⟩
   refine WL.new hS360 12 [] (fun g => (pt g)) (.cells e12 33 (0, 0)) [] (fun fb g => by kernel_rfl) trivial (fun g361 w362 hS363 => ?_)
   refine ⟨⟨hS363.cell 2 rfl 0 rfl, hS363.cell 2 rfl 1 rfl, hS363.cell 2 rfl 2 rfl, hS363.cell 2 rfl 3 rfl, hS363.cell 2 rfl 4 rfl, hS363.cell 2 rfl 0 rfl, hS363.cell 2 rfl 1 rfl, hS363.cell 2 rfl 2 rfl, hS363.cell 2 rfl 3 rfl, hS363.cell 2 rfl 4 rfl, trivial⟩, ?_⟩
   refine WL.store hS363 0 rfl [(0, (iv t351.Num)), (1, (iv t351.Den))] #[(iv t351.Num), (iv t351.Den)] (fun fb => by kernel_rfl) (by kernel_rfl) rfl [1, 2, 3, 4] (by decide) (by decide) (fun w364 hS365 => ?_)
   refine ⟨trivial, ?_⟩
   refine WL.store hS365 1 rfl [(0, (iv t356.Num)), (1, (iv t356.Den))] #[(iv t356.Num), (iv t356.Den)] (fun fb => by kernel_rfl) (by kernel_rfl) rfl e21 (by decide) (by decide) (fun w366 hS367 => ?_)
   refine ⟨trivial, ?_⟩
   refine WL.done rfl ?_
   injection hx165 with hx165
   exact WX.to Kx164 ((t351.Num, t351.Den, t356.Num, t356.Den), g361, g348) e17 rfl ⟨(hS367.subR e14).sub e31 (by decide), hx165.symm⟩
  ·
   refine segF 8 [.v e9, .v e7, .v e8, .v e10, .v e11, .v e9, .v e7, .v e8, .v e10, .v e11] e4 [e26, e24, e19, (10, (bv ((t22.1.Num == 0 && e20) && (t22.2.1.Num == 0 && e18)))), (101, e5), (102, (.agg e2)), (103, e6), e22, (106, e5), (107, (.agg e2)), (108, e6), e23] [] e13 e1 (fun fb => by kernel_rfl) rfl trivial rfl ?_
   refine WL.new hS167 13 [] (fun g => (pt g)) (.cells e12 33 (0, 0)) [] (fun fb g => by kernel_rfl) trivial (fun g368 w369 hS370 => ?_)
   refine ⟨⟨hS370.cell 1 rfl 0 rfl, hS370.cell 1 rfl 1 rfl, hS370.cell 1 rfl 2 rfl, hS370.cell 1 rfl 3 rfl, hS370.cell 1 rfl 4 rfl, hS370.cell 1 rfl 0 rfl, hS370.cell 1 rfl 1 rfl, hS370.cell 1 rfl 2 rfl, hS370.cell 1 rfl 3 rfl, hS370.cell 1 rfl 4 rfl, trivial⟩, ?_⟩
   obtain ⟨t371, ht372, hx165⟩ := bind_some hx165
   refine WL.call e34 19 #[e5, (.agg e2), e6, e35, (iv y161)] (fun fb => by kernel_rfl) (ref06_Sum_calls _ p0 p1 p2 false y161 Aa ca Ab cb Ac cc Ad cd Ae ce Af cf Ag cg t371 _ (hS370.rd 0) (hS370.rd 1) (hS370.rd 2) (hS370.rd 3) (hS370.rd 4) (hS370.rd 5) (hS370.rd 6) ht372) (fun v w373 hR374 => ?_)
   obtain ⟨rfl, hk_⟩ := hR374
   have hS375 := hS370.keepN hk_
   refine ⟨⟨hS375.cell 1 rfl 0 rfl, hS375.cell 1 rfl 1 rfl, hS375.cell 1 rfl 2 rfl, hS375.cell 1 rfl 3 rfl, hS375.cell 1 rfl 4 rfl, trivial⟩, ?_⟩
   refine WL.new hS375 12 [] (fun g => (pt g)) (.cells e12 33 (0, 0)) [] (fun fb g => by kernel_rfl) trivial (fun g376 w377 hS378 => ?_)
   refine ⟨⟨hS378.cell 2 rfl 0 rfl, hS378.cell 2 rfl 1 rfl, hS378.cell 2 rfl 2 rfl, hS378.cell 2 rfl 3 rfl, hS378.cell 2 rfl 4 rfl, hS378.cell 2 rfl 0 rfl, hS378.cell 2 rfl 1 rfl, hS378.cell 2 rfl 2 rfl, hS378.cell 2 rfl 3 rfl, hS378.cell 2 rfl 4 rfl, trivial⟩, ?_⟩
   obtain ⟨t379, ht380, hx165⟩ := bind_some hx165
   refine WL.call e36 19 #[e5, (.agg e2), e6, (bv true), (iv y161)] (fun fb => by kernel_rfl) (ref06_Sum_calls _ p0 p1 p2 true y161 Aa ca Ab cb Ac cc Ad cd Ae ce Af cf Ag cg t379 _ (hS378.rd 0) (hS378.rd 1) (hS378.rd 2) (hS378.rd 3) (hS378.rd 4) (hS378.rd 5) (hS378.rd 6) ht380) (fun v w381 hR382 => ?_)
   obtain ⟨rfl, hk_⟩ := hR382
   have hS383 := hS378.keepN hk_
   refine ⟨trivial, ?_⟩
   refine WL.store hS383 0 rfl [(0, (iv t371.Num)), (1, (iv t371.Den))] #[(iv t371.Num), (iv t371.Den)] (fun fb => by kernel_rfl) (by kernel_rfl) rfl [1, 2, 3, 4] (by decide) (by decide) (fun w384 hS385 => ?_)
   refine ⟨trivial, ?_⟩
   refine WL.store hS385 1 rfl [(0, (iv t379.Num)), (1, (iv t379.Den))] #[(iv t379.Num), (iv t379.Den)] (fun fb => by kernel_rfl) (by kernel_rfl) rfl e21 (by decide) (by decide) (fun w386 hS387 => ?_)
   refine ⟨trivial, ?_⟩
   refine WL.done rfl ?_
   injection hx165 with hx165
   exact WX.to Kx164 ((t371.Num, t371.Den, t379.Num, t379.Den), g376, g368) e17 rfl ⟨(hS387.subR e14).sub e31 (by decide), hx165.symm⟩
  refine segF 8 [.v e9, .v e7, .v e8, .v e10, .v e11, .v e9, .v e7, .v e8, .v e10, .v e11] e4 [e26, e24, e19, (10, (bv ((t22.1.Num == 0 && e20) && (t22.2.1.Num == 0 && e18)))), (101, e5), (102, (.agg e2)), (103, e6), e22, (106, e5), (107, (.agg e2)), (108, e6), e23] [] e13 e1 (fun fb => by kernel_rfl) rfl trivial rfl ?_
  refine WL.new hS167 13 [] (fun g => (pt g)) (.cells e12 33 (0, 0)) [] (fun fb g => by kernel_rfl) trivial (fun g388 w389 hS390 => ?_)
  refine ⟨⟨hS390.cell 1 rfl 0 rfl, hS390.cell 1 rfl 1 rfl, hS390.cell 1 rfl 2 rfl, hS390.cell 1 rfl 3 rfl, hS390.cell 1 rfl 4 rfl, hS390.cell 1 rfl 0 rfl, hS390.cell 1 rfl 1 rfl, hS390.cell 1 rfl 2 rfl, hS390.cell 1 rfl 3 rfl, hS390.cell 1 rfl 4 rfl, trivial⟩, ?_⟩
  refine WL.new hS390 12 [] (fun g => (pt g)) (.cells e12 33 (0, 0)) [] (fun fb g => by kernel_rfl) trivial (fun g391 w392 hS393 => ?_)
  refine ⟨⟨hS393.cell 2 rfl 0 rfl, hS393.cell 2 rfl 1 rfl, hS393.cell 2 rfl 2 rfl, hS393.cell 2 rfl 3 rfl, hS393.cell 2 rfl 4 rfl, hS393.cell 2 rfl 0 rfl, hS393.cell 2 rfl 1 rfl, hS393.cell 2 rfl 2 rfl, hS393.cell 2 rfl 3 rfl, hS393.cell 2 rfl 4 rfl, trivial⟩, ?_⟩
  obtain ⟨t394, ht395, hx165⟩ := bind_some hx165
  refine WL.call e34 19 #[e5, (.agg e2), e6, e35, (iv y161)] (fun fb => by kernel_rfl) (ref06_Sum_calls _ p0 p1 p2 false y161 Aa ca Ab cb Ac cc Ad cd Ae ce Af cf Ag cg t394 _ (hS393.rd 0) (hS393.rd 1) (hS393.rd 2) (hS393.rd 3) (hS393.rd 4) (hS393.rd 5) (hS393.rd 6) ht395) (fun v w396 hR397 => ?_)
  obtain ⟨rfl, hk_⟩ := hR397
  have hS398 := hS393.keepN hk_
  refine ⟨⟨hS398.cell 2 rfl 0 rfl, hS398.cell 2 rfl 1 rfl, hS398.cell 2 rfl 2 rfl, hS398.cell 2 rfl 3 rfl, hS398.cell 2 rfl 4 rfl, trivial⟩, ?_⟩
  obtain ⟨t399, ht400, hx165⟩ := bind_some hx165
  refine WL.call e36 19 #[e5, (.agg e2), e6, (bv true), (iv y161)] (fun fb => by kernel_rfl) (ref06_Sum_calls _ p0 p1 p2 true y161 Aa ca Ab cb Ac cc Ad cd Ae ce Af cf Ag cg t399 _ (hS398.rd 0) (hS398.rd 1) (hS398.rd 2) (hS398.rd 3) (hS398.rd 4) (hS398.rd 5) (hS398.rd 6) ht400) (fun v w401 hR402 => ?_)
  obtain ⟨rfl, hk_⟩ := hR402
  have hS403 := hS398.keepN hk_
  refine ⟨trivial, ?_⟩
  refine WL.store hS403 0 rfl [(0, (iv t394.Num)), (1, (iv t394.Den))] #[(iv t394.Num), (iv t394.Den)] (fun fb => by kernel_rfl) (by kernel_rfl) rfl [1, 2, 3, 4] (by decide) (by decide) (fun w404 hS405 => ?_)
  refine ⟨trivial, ?_⟩
  refine WL.store hS405 1 rfl [(0, (iv t399.Num)), (1, (iv t399.Den))] #[(iv t399.Num), (iv t399.Den)] (fun fb => by kernel_rfl) (by kernel_rfl) rfl e21 (by decide) (by decide) (fun w406 hS407 => ?_)
  refine ⟨trivial, ?_⟩
  refine WL.done rfl ?_
  injection hx165 with hx165
  exact WX.to Kx164 ((t394.Num, t394.Den, t399.Num, t399.Den), g391, g388) e17 rfl ⟨(hS407.subR e14).sub e31 (by decide), hx165.symm⟩
 rintro ⟨y411, g162, g163⟩ w408 ⟨hS409, hq410⟩
 subst hq410
 refine WX.next (WC.seq (WC.seq (WC.region ?_)))
 refine seg 1 [.v (iv x164.1), .v (iv x164.2.1)] [7, 8, 9, 10, 12, 13, 111] [e26, e24, e19, (10, (bv ((t22.1.Num == 0 && e20) && (t22.2.1.Num == 0 && e18)))), (12, (pt g162)), (13, (pt g163)), (111, (.agg #[(iv x164.1), (iv x164.2.1)]))] [.cell ⟨g162, 0, none⟩ (iv x164.1), .cell ⟨g162, 1, none⟩ (iv x164.2.1)] (fun fb => by kernel_rfl) rfl ⟨hS409.cell 2 rfl 0 rfl, hS409.cell 2 rfl 1 rfl, trivial⟩ ?_
 obtain ⟨t412, ht413, hf⟩ := bind_some hf
 refine WL.call (some 112) 18 #[(.agg #[(iv x164.1), (iv x164.2.1)])] (fun fb => by kernel_rfl) (ref06_Fits_calls (Frac.mk x164.1 x164.2.1) t412 _ ht413) (fun v w414 hR415 => ?_)
 obtain ⟨rfl, hk_⟩ := hR415
 have hS416 := hS409.keepN hk_
 refine ⟨trivial, ?_⟩
 refine sg 4 [] [7, 8, 9, 10, 12, 13, 114] [e26, e24, e19, (10, (bv ((t22.1.Num == 0 && e20) && (t22.2.1.Num == 0 && e18)))), (12, (pt g162)), (13, (pt g163)), (114, (bv (!t412)))] (by kernel_rfl) ?_
 obtain ⟨x417, hx418, hf⟩ := bind_some hf
 let e37 : List Nat := [7, 8, 9, 10, 12, 13, 118]
 let e38 : Array Value := #[(iv x164.2.2.1), (iv x164.2.2.2)]
 refine WL.cutW (T := Bool) 8 (fun t => [e26, e24, e19, (10, (bv ((t22.1.Num == 0 && e20) && (t22.2.1.Num == 0 && e18)))), (12, (pt g162)), (13, (pt g163)), (118, (bv t))]) (fun t w1 => (St NoS w w1 e3 [blk g27 (.cells e41 33 (0, 0)), blk g30 (.cells e30 33 (0, 0)), blk g162 (.cells #[(iv x164.1), (iv x164.2.1)] 33 (0, 0)), blk g163 (.cells e38 33 (0, 0))] ∧ x417 = t) ∧ CellsOK [] w1) (fun K => ?_) ?_
 ·
  rcases br_some hx418 with ⟨h419, hx418⟩ | ⟨h419, hx418⟩
  ·
   refine WL.setB 114 h419 rfl ?_
   refine sg 8 [] e37 [e26, e24, e19, (10, (bv ((t22.1.Num == 0 && e20) && (t22.2.1.Num == 0 && e18)))), (12, (pt g162)), (13, (pt g163)), (118, (bv true))] (by kernel_rfl) ?_
   injection hx418 with hx418
   exact WL.to K true e37 rfl ⟨⟨(hS416.subR e14).sub [0, 1, 2, 3] (by decide), hx418.symm⟩, trivial⟩
  refine WL.setB 114 h419 rfl ?_
  refine seg 5 [.v (iv x164.2.2.1), .v (iv x164.2.2.2)] [7, 8, 9, 10, 12, 13, 114, 115] [e26, e24, e19, (10, (bv ((t22.1.Num == 0 && e20) && (t22.2.1.Num == 0 && e18)))), (12, (pt g162)), (13, (pt g163)), (114, e35), (115, (.agg e38))] [.cell ⟨g163, 0, none⟩ (iv x164.2.2.1), .cell ⟨g163, 1, none⟩ (iv x164.2.2.2)] (fun fb => by kernel_rfl) rfl ⟨hS416.cell 3 rfl 0 rfl, hS416.cell 3 rfl 1 rfl, trivial⟩ ?_
  obtain ⟨t420, ht421, hx418⟩ := bind_some hx418
  refine WL.call (some 116) 18 #[(.agg e38)] (fun fb => by kernel_rfl) (ref06_Fits_calls (Frac.mk x164.2.2.1 x164.2.2.2) t420 _ ht421) (fun v w422 hR423 => ?_)
  obtain ⟨rfl, hk_⟩ := hR423
  have hS424 := hS416.keepN hk_
  refine ⟨trivial, ?_⟩
  refine sg 8 [] e37 [e26, e24, e19, (10, (bv ((t22.1.Num == 0 && e20) && (t22.2.1.Num == 0 && e18)))), (12, (pt g162)), (13, (pt g163)), (118, (bv (!t420)))] (by kernel_rfl) ?_
  injection hx418 with hx418
  exact WL.to K (!t420) e37 rfl ⟨⟨(hS424.subR e14).sub [0, 1, 2, 3] (by decide), hx418.symm⟩, trivial⟩
 rintro y425 w427 ⟨⟨hS428, hq426⟩, hF429⟩
 subst hq426
 refine WL.done rfl (WX.next ?_)
 rcases br_some hf with ⟨h430, hf⟩ | ⟨h430, hf⟩
 ·refine WC.condT2 (fun fb => by kernel_rfl) h430 ?_
  refine WC.seq (WC.region ?_)
  refine sg 3 [] [10, 121] [(10, (bv ((t22.1.Num == 0 && e20) && (t22.2.1.Num == 0 && e18)))), (121, (bv (t22.2.2 == 4)))] (by kernel_rfl) ?_
  refine WL.cutV (T := Bool) 5 (fun t => [(123, (bv t))]) (fun t => ((t22.2.2 == 4) && ((t22.1.Num == 0 && e20) && (t22.2.1.Num == 0 && e18))) = t) (fun K => ?_) ?_
  ·
   rcases Bool.eq_false_or_eq_true (t22.2.2 == 4) with h431 | h431
   ·
    refine WL.setB 121 h431 rfl ?_
    refine sg 5 [] [123] [(123, (bv ((t22.1.Num == 0 && e20) && (t22.2.1.Num == 0 && e18))))] (by kernel_rfl) ?_
    exact WL.toV K ((t22.1.Num == 0 && (t22.1.Den == 0)) && (t22.2.1.Num == 0 && (t22.2.1.Den == 0))) [123] rfl (by first | (rw [h431]; done) | (rw [h431]; rfl))
   refine WL.setB 121 h431 rfl ?_
   refine sg 5 [] [123] [(123, e35)] (by kernel_rfl) ?_
   exact WL.toV K false [123] rfl (by first | (rw [h431]; done) | (rw [h431]; rfl))
  rintro b432 rfl
  refine sg 6 [] [124] [(124, (bv ((t22.2.2 == 4) && ((t22.1.Num == 0 && e20) && (t22.2.1.Num == 0 && e18)))))] (by kernel_rfl) ?_
  obtain ⟨x433, hx434, hf⟩ := bind_some hf
  refine WL.cutW (T := Bool) 8 (fun t => [(126, (bv t))]) (fun t w1 => (St NoS w w1 e3 [] ∧ x433 = t) ∧ CellsOK [] w1) (fun K => ?_) ?_
  ·
   rcases br_some hx434 with ⟨h435, hx434⟩ | ⟨h435, hx434⟩
   ·
    refine WL.setB 124 h435 rfl ?_
    obtain ⟨t436, ht437, hx434⟩ := bind_some hx434
    refine WL.call (some 125) 10 #[] (fun fb => by kernel_rfl) (law06_awake_calls _ mG t436 _ (hS428.rd 7) (hS428.rd 8) ht437) (fun v w438 hR439 => ?_)
    obtain ⟨rfl, hk_⟩ := hR439
    have hS440 := hS428.keepN hk_
    refine ⟨trivial, ?_⟩
    refine sg 8 [] [126] [(126, (bv t436))] (by kernel_rfl) ?_
    injection hx434 with hx434
    exact WL.to K t436 [126] rfl ⟨⟨(hS440.subR e14).sub [] (by decide), hx434.symm⟩, trivial⟩
   refine WL.setB 124 h435 rfl ?_
   refine sg 8 [] [126] [(126, e35)] (by kernel_rfl) ?_
   injection hx434 with hx434
   exact WL.to K false [126] rfl ⟨⟨(hS428.subR e14).sub [] (by decide), hx434.symm⟩, trivial⟩
  rintro y441 w443 ⟨⟨hS444, hq442⟩, hF445⟩
  subst hq442
  refine sg 9 [] [6] [(6, (bv x433))] (by kernel_rfl) ?_
  refine WL.done rfl (WX.next ?_)
  refine WC.ret ?_
  injection hf with hf
  subst hf
  exact WX.thenR (WX.ret_ [] (bv x433) [] (fun fb => by kernel_rfl) trivial ⟨_, rfl, rfl, hS444.keep⟩)
 refine WC.condF2 (fun fb => by kernel_rfl) h430 ?_
 refine WC.skip (WX.next (WC.seq (WC.region ?_)))
 refine sg 3 [] [7, 8, 12, 13, 129] [e26, e24, (12, (pt g162)), (13, (pt g163)), (129, (bv (t22.2.2 == 0)))] (by kernel_rfl) ?_
 refine WL.cutV (T := Bool) 7 (fun t => [(133, (bv t)), e24, (13, (pt g163))]) (fun t => ((t22.2.2 == 0) && (t22.1.Num == x164.1 && (t22.1.Den == x164.2.1))) = t) (fun K => ?_) ?_
 ·
  rcases Bool.eq_false_or_eq_true (t22.2.2 == 0) with h446 | h446
  ·
   refine WL.setB 129 h446 rfl ?_
   refine seg 7 [.v (iv t22.1.Num), .v (iv t22.1.Den), .v (iv x164.1), .v (iv x164.2.1)] [8, 13, 133] [e24, (13, (pt g163)), (133, (bv (t22.1.Num == x164.1 && (t22.1.Den == x164.2.1))))] [.cell ⟨g27, 0, none⟩ (iv t22.1.Num), .cell ⟨g27, 1, none⟩ (iv t22.1.Den), .cell ⟨g162, 0, none⟩ (iv x164.1), .cell ⟨g162, 1, none⟩ (iv x164.2.1)] (fun fb => by kernel_rfl) rfl ⟨hS428.cell 0 rfl 0 rfl, hS428.cell 0 rfl 1 rfl, hS428.cell 2 rfl 0 rfl, hS428.cell 2 rfl 1 rfl, trivial⟩ ?_
   exact WL.toV K (t22.1.Num == x164.1 && (t22.1.Den == x164.2.1)) [133, 8, 13] rfl (by first | (rw [h446]; done) | (rw [h446]; rfl))
  refine WL.setB 129 h446 rfl ?_
  refine sg 7 [] [8, 13, 133] [e24, (13, (pt g163)), (133, e35)] (by kernel_rfl) ?_
  exact WL.toV K false [133, 8, 13] rfl (by first | (rw [h446]; done) | (rw [h446]; rfl))
 rintro b447 rfl
 refine sg 8 [] [8, 13, 134] [e24, (13, (pt g163)), (134, (bv ((t22.2.2 == 0) && (t22.1.Num == x164.1 && (t22.1.Den == x164.2.1)))))] (by kernel_rfl) ?_
 refine WL.cutV (T := Bool) 12 (fun t => [(138, (bv t))]) (fun t => (((t22.2.2 == 0) && (t22.1.Num == x164.1 && (t22.1.Den == x164.2.1))) && (t22.2.1.Num == x164.2.2.1 && (t22.2.1.Den == x164.2.2.2))) = t) (fun K => ?_) ?_
 ·
  rcases Bool.eq_false_or_eq_true ((t22.2.2 == 0) && (t22.1.Num == x164.1 && (t22.1.Den == x164.2.1))) with h448 | h448
  ·
   refine WL.setB 134 h448 rfl ?_
   refine seg 12 [.v (iv t22.2.1.Num), .v (iv t22.2.1.Den), .v (iv x164.2.2.1), .v (iv x164.2.2.2)] [138] [(138, (bv (t22.2.1.Num == x164.2.2.1 && (t22.2.1.Den == x164.2.2.2))))] [.cell ⟨g30, 0, none⟩ (iv t22.2.1.Num), .cell ⟨g30, 1, none⟩ (iv t22.2.1.Den), .cell ⟨g163, 0, none⟩ (iv x164.2.2.1), .cell ⟨g163, 1, none⟩ (iv x164.2.2.2)] (fun fb => by kernel_rfl) rfl ⟨hS428.cell 1 rfl 0 rfl, hS428.cell 1 rfl 1 rfl, hS428.cell 3 rfl 0 rfl, hS428.cell 3 rfl 1 rfl, trivial⟩ ?_
   exact WL.toV K (t22.2.1.Num == x164.2.2.1 && (t22.2.1.Den == x164.2.2.2)) [138] rfl (by first | (rw [h448]; done) | (rw [h448]; rfl))
  refine WL.setB 134 h448 rfl ?_
  refine sg 12 [] [138] [(138, e35)] (by kernel_rfl) ?_
  exact WL.toV K false [138] rfl (by first | (rw [h448]; done) | (rw [h448]; rfl))
 rintro b449 rfl
 refine sg 13 [] [139] [(139, (bv (((t22.2.2 == 0) && (t22.1.Num == x164.1 && (t22.1.Den == x164.2.1))) && (t22.2.1.Num == x164.2.2.1 && (t22.2.1.Den == x164.2.2.2)))))] (by kernel_rfl) ?_
 obtain ⟨x450, hx451, hf⟩ := bind_some hf
 refine WL.cutW (T := Bool) 15 (fun t => [(141, (bv t))]) (fun t w1 => (St NoS w w1 e3 [] ∧ x450 = t) ∧ CellsOK [] w1) (fun K => ?_) ?_
 ·
  rcases br_some hx451 with ⟨h452, hx451⟩ | ⟨h452, hx451⟩
  ·
   refine WL.setB 139 h452 rfl ?_
   obtain ⟨t453, ht454, hx451⟩ := bind_some hx451
   refine WL.call (some 140) 10 #[] (fun fb => by kernel_rfl) (law06_awake_calls _ mG t453 _ (hS428.rd 7) (hS428.rd 8) ht454) (fun v w455 hR456 => ?_)
   obtain ⟨rfl, hk_⟩ := hR456
   have hS457 := hS428.keepN hk_
   refine ⟨trivial, ?_⟩
   refine sg 15 [] [141] [(141, (bv t453))] (by kernel_rfl) ?_
   injection hx451 with hx451
   exact WL.to K t453 [141] rfl ⟨⟨(hS457.subR e14).sub [] (by decide), hx451.symm⟩, trivial⟩
  refine WL.setB 139 h452 rfl ?_
  refine sg 15 [] [141] [(141, e35)] (by kernel_rfl) ?_
  injection hx451 with hx451
  exact WL.to K false [141] rfl ⟨⟨(hS428.subR e14).sub [] (by decide), hx451.symm⟩, trivial⟩
 rintro y458 w460 ⟨⟨hS461, hq459⟩, hF462⟩
 subst hq459
 refine sg 16 [] [6] [(6, (bv x450))] (by kernel_rfl) ?_
 refine WL.done rfl (WX.next ?_)
 refine WC.ret ?_
 injection hf with hf
 subst hf
 exact WX.ret_ [] (bv x450) [] (fun fb => by kernel_rfl) trivial ⟨_, rfl, rfl, hS461.keep⟩
end Gp
