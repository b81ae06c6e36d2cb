/- Walks: each function of the program computes its plain function. -/
import Derived.Test.YtmdkdigmkcpceaaGp
set_option linter.unusedVariables false
set_option linter.unusedSimpArgs false
set_option maxHeartbeats 4000000
namespace Gp
open Go Gw Go.Proofs
theorem tile_colour_1_calls (p0 : Int)  (r : Bool) (w : World)  (hf : tile_colour_1 p0 = some r) :
  CallsR Try.prog 80 #[(iv p0)] w (fun v w' => v = (.bool r) ∧ Keeps NoS w w') := by
 have hS : St NoS w w [] [] := St.init (ro_nil _ _)
 refine enter 9 Try.func80 rfl Try.ntmps80 rfl ?_
 unfold tile_colour_1 at hf
 refine WC.seq ?_
 refine WC.region ?_
 refine seg 1 [] [0] [(0, (iv p0))] [] (fun fb => by kernel_rfl) rfl trivial ?_
 refine WL.done rfl ?_
 refine WX.next ?_
 refine WC.seq ?_
 refine WC.region ?_
 refine seg 3 [] [0, 5] [(0, (iv p0)), (5, (.bool (decide (p0 < 0))))] [] (fun fb => by kernel_rfl) rfl trivial ?_
 refine WL.cutV (T := Bool) 6 (fun t => [(8, (.bool t))]) (fun t => ((decide (p0 < 0)) || (decide (p0 ≥ 1000))) = t) (fun K => ?_) ?_
 ·
  rcases Bool.eq_false_or_eq_true (decide (p0 < 0)) with h28 | h28
  ·
   refine WL.setB 5 h28 rfl ?_
   refine seg 6 [] [8] [(8, (.bool true))] [] (fun fb => by kernel_rfl) rfl trivial ?_
   exact WL.toV K true [8] rfl (by first | (rw [h28]; done) | (rw [h28]; rfl))
  refine WL.setB 5 h28 rfl ?_
  refine seg 6 [] [8] [(8, (.bool (decide (p0 ≥ 1000))))] [] (fun fb => by kernel_rfl) rfl trivial ?_
  exact WL.toV K (decide (p0 ≥ 1000)) [8] rfl (by first | (rw [h28]; done) | (rw [h28]; rfl))
 rintro b29 rfl
 refine seg 7 [] [2] [(2, (.bool ((decide (p0 < 0)) || (decide (p0 ≥ 1000)))))] [] (fun fb => by kernel_rfl) rfl trivial ?_
 refine WL.done rfl ?_
 refine WX.next ?_
 refine WC.ret ?_
 injection hf with hf
 subst hf
 exact WX.ret_ [] (.bool ((decide (p0 < 0)) || (decide (p0 ≥ 1000)))) [] (fun fb => by kernel_rfl) trivial ⟨_, rfl, rfl, hS.keep⟩
theorem slices_IndexFunc_int_int_with_tile_colour_1_calls (k : Nat) (p0 : List Int) (A_p0 : Option Addr) (c_p0 : Nat) (r : Int) (w : World) (hR0 : RO NoS w (rowR encInt A_p0 c_p0 p0)) (hf : slices_IndexFunc_int_int_with_tile_colour_1 k p0 = some r) :
  CallsR Try.prog 81 #[(.slice A_p0 p0.length c_p0), (.func (.func 80) #[] #[])] w (fun v w' => v = (iv r) ∧ Keeps NoS w w') := by
 have hS : St NoS w w [rowR encInt A_p0 c_p0 p0] [] := St.init (ro_cons hR0 (ro_nil _ _))
 refine enter 19 Try.func81 rfl Try.ntmps81 rfl ?_
 unfold slices_IndexFunc_int_int_with_tile_colour_1 at hf
 refine WC.seq ?_
 refine WC.region ?_
 refine seg 1 [] [0, 1] [(0, (.slice A_p0 p0.length c_p0)), (1, (.func (.func 80) #[] #[]))] [] (fun fb => by kernel_rfl) rfl trivial ?_
 refine WL.done rfl ?_
 refine WX.next ?_
 refine WC.seq ?_
 refine WC.seq ?_
 refine WC.region ?_
 refine seg 3 [] [0, 1, 7, 8] [(0, (.slice A_p0 p0.length c_p0)), (1, (.func (.func 80) #[] #[])), (7, (iv (p0.length : Int))), (8, (iv 0))] [] (fun fb => by kernel_rfl) rfl trivial ?_
 refine WL.done rfl ?_
 refine WX.next ?_
 obtain ⟨x46, hx47, hf⟩ := bind_some hf
 refine WC.cutN (T := Unit) (fun t => []) (fun t w1 => St NoS w w1 [rowR encInt A_p0 c_p0 p0] [] ∧ x46 = .inr t) (fun Kx46 => ?_) ?_
 ·
  refine WC.block ?_
  refine WC.loop (T := Int) (fun t => [(0, (.slice A_p0 p0.length c_p0)), (1, (.func (.func 80) #[] #[])), (7, (iv (p0.length : Int))), (8, (iv t))]) (fun n t w1 => St NoS w w1 [rowR encInt A_p0 c_p0 p0] [] ∧ slices_IndexFunc_int_int_with_tile_colour_1.l0 n t p0 = some x46) k 0 [0, 1, 7, 8] rfl ⟨(hS.subR [0]).sub [] (by decide), hx47⟩ ?_
  rintro k48 x45 w49 ⟨hS50, hl51⟩
  cases k48 with
  | zero => rw [slices_IndexFunc_int_int_with_tile_colour_1.l0] at hl51; cases hl51
  | succ k48 =>
   rw [slices_IndexFunc_int_int_with_tile_colour_1.l0] at hl51
   refine WC.seq ?_
   refine WC.region ?_
   refine seg 1 [] [0, 1, 7, 8, 9] [(0, (.slice A_p0 p0.length c_p0)), (1, (.func (.func 80) #[] #[])), (7, (iv (p0.length : Int))), (8, (iv x45)), (9, (.bool (decide (x45 < (p0.length : Int)))))] [] (fun fb => by kernel_rfl) rfl trivial ?_
   refine WL.done rfl ?_
   refine WX.next ?_
   refine WC.seq ?_
   rcases br_some hl51 with ⟨h52, hl51⟩ | ⟨h52, hl51⟩
   ·refine WC.condT2 (fun fb => by kernel_rfl) h52 ?_
    refine WC.skip ?_
    refine WX.next ?_
    refine WC.seq ?_
    refine WC.block ?_
    refine WC.seq ?_
    refine WC.region ?_
    refine seg 2 [] [0, 1, 5, 7, 8] [(0, (.slice A_p0 p0.length c_p0)), (1, (.func (.func 80) #[] #[])), (5, (iv x45)), (7, (iv (p0.length : Int))), (8, (iv x45))] [] (fun fb => by kernel_rfl) rfl trivial ?_
    refine WL.done rfl ?_
    refine WX.next ?_
    refine WC.seq ?_
    refine WC.region ?_
    refine seg 3 [] [0, 1, 5, 7, 8, 11, 12, 13] [(0, (.slice A_p0 p0.length c_p0)), (1, (.func (.func 80) #[] #[])), (5, (iv x45)), (7, (iv (p0.length : Int))), (8, (iv x45)), (11, (.func (.func 80) #[] #[])), (12, (.slice A_p0 p0.length c_p0)), (13, (iv x45))] [] (fun fb => by kernel_rfl) rfl trivial ?_
    obtain ⟨h53, hl51⟩ := as_some hl51
    refine seg 5 [.v (iv (rdD p0 x45 0))] [0, 1, 5, 7, 8, 11, 15] [(0, (.slice A_p0 p0.length c_p0)), (1, (.func (.func 80) #[] #[])), (5, (iv x45)), (7, (iv (p0.length : Int))), (8, (iv x45)), (11, (.func (.func 80) #[] #[])), (15, (iv (rdD p0 x45 0)))] [.idx A_p0 x45 p0.length, .cell ((adr A_p0).add ((x45).toNat * 1)) (iv (rdD p0 x45 0))] (fun fb => by kernel_rfl) rfl ⟨rowR.adr (hS50.rd 0).1 h53.1 h53.2, rowR.cell (hS50.rd 0).1 0 h53.1 h53.2 0 rfl, trivial⟩ ?_
    obtain ⟨t54, ht55, hl51⟩ := bind_some hl51
    refine WL.call (some 16) 80 #[(iv (rdD p0 x45 0))] (fun fb => by kernel_rfl) (tile_colour_1_calls (rdD p0 x45 0) t54 _ ht55) (fun v w56 hR57 => ?_)
    obtain ⟨rfl, hk_⟩ := hR57
    have hS58 := hS50.keepN hk_
    refine ⟨trivial, ?_⟩
    refine WL.done rfl ?_
    refine WX.next ?_
    rcases br_some hl51 with ⟨h59, hl51⟩ | ⟨h59, hl51⟩
    ·refine WC.condT2 (fun fb => by kernel_rfl) h59 ?_
     refine WC.seq ?_
     refine WC.region ?_
     refine seg 2 [] [4] [(4, (iv x45))] [] (fun fb => by kernel_rfl) rfl trivial ?_
     refine WL.done rfl ?_
     refine WX.next ?_
     refine WC.ret ?_
     injection hl51 with hl51
     subst hl51
     injection hf with hf
     subst hf
     exact WX.blockR (WX.thenR (WX.thenR (WX.blockR (WX.thenR (WX.ret_ [] (iv x45) [] (fun fb => by kernel_rfl) trivial ⟨_, rfl, rfl, hS58.keep⟩)))))
    refine WC.condF2 (fun fb => by kernel_rfl) h59 ?_
    refine WC.skip ?_
    refine WX.blockN (WX.next ?_)
    refine WC.region ?_
    refine seg 2 [] [0, 1, 7, 8] [(0, (.slice A_p0 p0.length c_p0)), (1, (.func (.func 80) #[] #[])), (7, (iv (p0.length : Int))), (8, (iv (w64 (x45 + 1))))] [] (fun fb => by kernel_rfl) rfl trivial ?_
    refine WL.done rfl ?_
    exact WX.again k48 (Nat.lt_succ_self _) (w64 (x45 + 1)) [0, 1, 7, 8] rfl ⟨(hS58.subR [0]).sub [] (by decide), hl51⟩
   refine WC.condF2 (fun fb => by kernel_rfl) h52 ?_
   refine WC.exit ?_
   injection hl51 with hl51
   exact WX.thenX (WX.thenX (WX.blockHere (WX.to Kx46 () [] rfl ⟨(hS50.subR [0]).sub [] (by decide), hl51.symm⟩)))
 rintro y63 w60 ⟨hS61, hq62⟩
 subst hq62
 have hf := sum_inr hf
 refine WX.next ?_
 refine WC.seq ?_
 refine WC.region ?_
 refine seg 1 [] [4] [(4, (iv (-1)))] [] (fun fb => by kernel_rfl) rfl trivial ?_
 refine WL.done rfl ?_
 refine WX.next ?_
 refine WC.ret ?_
 injection hf with hf
 subst hf
 exact WX.ret_ [] (iv (-1)) [] (fun fb => by kernel_rfl) trivial ⟨_, rfl, rfl, hS61.keep⟩
theorem slices_ContainsFunc_int_int_with_tile_colour_1_calls (k : Nat) (p0 : List Int) (A_p0 : Option Addr) (c_p0 : Nat) (r : Bool) (w : World) (hR0 : RO NoS w (rowR encInt A_p0 c_p0 p0)) (hf : slices_ContainsFunc_int_int_with_tile_colour_1 k p0 = some r) :
  CallsR Try.prog 65 #[(.slice A_p0 p0.length c_p0), (.func (.func 80) #[] #[])] w (fun v w' => v = (.bool r) ∧ Keeps NoS w w') := by
 have hS : St NoS w w [rowR encInt A_p0 c_p0 p0] [] := St.init (ro_cons hR0 (ro_nil _ _))
 refine enter 9 Try.func65 rfl Try.ntmps65 rfl ?_
 unfold slices_ContainsFunc_int_int_with_tile_colour_1 at hf
 refine WC.seq ?_
 refine WC.region ?_
 refine seg 1 [] [0, 1] [(0, (.slice A_p0 p0.length c_p0)), (1, (.func (.func 80) #[] #[]))] [] (fun fb => by kernel_rfl) rfl trivial ?_
 refine WL.done rfl ?_
 refine WX.next ?_
 refine WC.seq ?_
 refine WC.region ?_
 refine seg 2 [] [5, 6] [(5, (.slice A_p0 p0.length c_p0)), (6, (.func (.func 80) #[] #[]))] [] (fun fb => by kernel_rfl) rfl trivial ?_
 obtain ⟨t65, ht66, hf⟩ := bind_some hf
 refine WL.call (some 7) 81 #[(.slice A_p0 p0.length c_p0), (.func (.func 80) #[] #[])] (fun fb => by kernel_rfl) (slices_IndexFunc_int_int_with_tile_colour_1_calls _ p0 A_p0 c_p0 t65 _ (hS.rd 0) ht66) (fun v w67 hR68 => ?_)
 obtain ⟨rfl, hk_⟩ := hR68
 have hS69 := hS.keepN hk_
 refine ⟨trivial, ?_⟩
 refine seg 5 [] [4] [(4, (.bool (decide (t65 ≥ 0))))] [] (fun fb => by kernel_rfl) rfl trivial ?_
 refine WL.done rfl ?_
 refine WX.next ?_
 refine WC.ret ?_
 injection hf with hf
 subst hf
 exact WX.ret_ [] (.bool (decide (t65 ≥ 0))) [] (fun fb => by kernel_rfl) trivial ⟨_, rfl, rfl, hS69.keep⟩
theorem tile_colour_calls (k : Nat) (p0 : List Int) (A_p0 : Option Addr) (c_p0 : Nat) (r : Bool) (w : World) (hR0 : RO NoS w (rowR encInt A_p0 c_p0 p0)) (hf : tile_colour k p0 = some r) :
  CallsR Try.prog 59 #[(.slice A_p0 p0.length c_p0)] w (fun v w' => v = (.bool r) ∧ Keeps NoS w w') := by
 have hS : St NoS w w [rowR encInt A_p0 c_p0 p0] [] := St.init (ro_cons hR0 (ro_nil _ _))
 refine enter 6 Try.func59 rfl Try.ntmps59 rfl ?_
 unfold tile_colour at hf
 refine WC.seq ?_
 refine WC.region ?_
 refine seg 1 [] [0] [(0, (.slice A_p0 p0.length c_p0))] [] (fun fb => by kernel_rfl) rfl trivial ?_
 refine WL.done rfl ?_
 refine WX.next ?_
 refine WC.seq ?_
 refine WC.region ?_
 refine seg 1 [] [3] [(3, (.slice A_p0 p0.length c_p0))] [] (fun fb => by kernel_rfl) rfl trivial ?_
 obtain ⟨t70, ht71, hf⟩ := bind_some hf
 refine WL.call (some 4) 65 #[(.slice A_p0 p0.length c_p0), (.func (.func 80) #[] #[])] (fun fb => by kernel_rfl) (slices_ContainsFunc_int_int_with_tile_colour_1_calls _ p0 A_p0 c_p0 t70 _ (hS.rd 0) ht71) (fun v w72 hR73 => ?_)
 obtain ⟨rfl, hk_⟩ := hR73
 have hS74 := hS.keepN hk_
 refine ⟨trivial, ?_⟩
 refine seg 4 [] [2] [(2, (.bool (!t70)))] [] (fun fb => by kernel_rfl) rfl trivial ?_
 refine WL.done rfl ?_
 refine WX.next ?_
 refine WC.ret ?_
 injection hf with hf
 subst hf
 exact WX.ret_ [] (.bool (!t70)) [] (fun fb => by kernel_rfl) trivial ⟨_, rfl, rfl, hS74.keep⟩
theorem tile_Valid_key24 : KeyK Try.prog 24 (aggI ints_Tile) := KeyK.struct (n := 4) (by kernel_rfl) ints_Tile (fun _ => rfl) (fun x y h => by cases x; cases y; simp only [ints_Tile, List.cons.injEq, and_true] at h; obtain ⟨rfl, rfl, rfl, rfl⟩ := h; rfl)
theorem tile_Valid_calls (k : Nat) (p0 : List Tile) (A_p0 : Option Addr) (c_p0 : Nat) (r : Bool) (w : World) (hR0 : RO NoS w (rowR enc_Tile A_p0 c_p0 p0)) (hf : tile_Valid k p0 = some r) :
  CallsR Try.prog 38 #[(.slice A_p0 p0.length c_p0)] w (fun v w' => v = (.bool r) ∧ Keeps NoS w w') := by
 have hS : St NoS w w [rowR enc_Tile A_p0 c_p0 p0] [] := St.init (ro_cons hR0 (ro_nil _ _))
 refine enter 35 Try.func38 rfl Try.ntmps38 rfl ?_
 unfold tile_Valid at hf
 refine WC.seq ?_
 refine WC.region ?_
 refine seg 1 [] [0] [(0, (.slice A_p0 p0.length c_p0))] [] (fun fb => by kernel_rfl) rfl trivial ?_
 refine WL.done rfl ?_
 refine WX.next ?_
 refine WC.seq ?_
 refine WC.seq ?_
 refine WC.region ?_
 refine seg 3 [] [0, 8] [(0, (.slice A_p0 p0.length c_p0)), (8, (.bool (decide ((p0.length : Int) > 1000))))] [] (fun fb => by kernel_rfl) rfl trivial ?_
 refine WL.done rfl ?_
 refine WX.next ?_
 rcases br_some hf with ⟨h9, hf⟩ | ⟨h9, hf⟩
 ·refine WC.condT2 (fun fb => by kernel_rfl) h9 ?_
  refine WC.seq ?_
  refine WC.region ?_
  refine seg 1 [] [2] [(2, (.bool false))] [] (fun fb => by kernel_rfl) rfl trivial ?_
  refine WL.done rfl ?_
  refine WX.next ?_
  refine WC.ret ?_
  injection hf with hf
  subst hf
  exact WX.thenR (WX.ret_ [] (.bool false) [] (fun fb => by kernel_rfl) trivial ⟨_, rfl, rfl, hS.keep⟩)
 refine WC.condF2 (fun fb => by kernel_rfl) h9 ?_
 refine WC.skip ?_
 refine WX.next ?_
 refine WC.seq ?_
 refine WC.region ?_
 refine WL.new hS 9 [] (fun g => (.map (some g))) (mapObj (aggI ints_Tile) vB ([] : List (Tile × Bool))) [] (fun fb g => by kernel_rfl) trivial (fun g10 w11 hS12 => ?_)
 refine ⟨trivial, ?_⟩
 refine seg 2 [] [0, 3] [(0, (.slice A_p0 p0.length c_p0)), (3, (.map (some g10)))] [] (fun fb => by kernel_rfl) rfl trivial ?_
 refine WL.done rfl ?_
 refine WX.next ?_
 refine WC.seq ?_
 refine WC.seq ?_
 refine WC.region ?_
 refine seg 3 [] [3, 10, 11, 12] [(3, (.map (some g10))), (10, (.slice A_p0 p0.length c_p0)), (11, (iv (p0.length : Int))), (12, (iv 0))] [] (fun fb => by kernel_rfl) rfl trivial ?_
 refine WL.done rfl ?_
 refine WX.next ?_
 obtain ⟨x146, hx147, hf⟩ := bind_some hf
 refine WC.cutN (T := Unit) (fun t => []) (fun t w1 => St NoS w w1 [rowR enc_Tile A_p0 c_p0 p0] [] ∧ x146 = .inr t) (fun Kx146 => ?_) ?_
 ·
  refine WC.block ?_
  refine WC.loop (T := (List (Tile × Bool)) × Int) (fun t => [(3, (.map (some g10))), (10, (.slice A_p0 p0.length c_p0)), (11, (iv (p0.length : Int))), (12, (iv t.2))]) (fun n t w1 => St NoS w w1 [rowR enc_Tile A_p0 c_p0 p0] [blk g10 (mapObj (aggI ints_Tile) vB t.1)] ∧ tile_Valid.l0 n t.1 t.2 p0 = some x146) k (([] : List (Tile × Bool)), 0) [3, 10, 11, 12] rfl ⟨(hS12.subR [0]).sub [0] (by decide), hx147⟩ ?_
  rintro k148 ⟨l144, x145⟩ w149 ⟨hS150, hl151⟩
  cases k148 with
  | zero => rw [tile_Valid.l0] at hl151; cases hl151
  | succ k148 =>
   rw [tile_Valid.l0] at hl151
   refine WC.seq ?_
   refine WC.region ?_
   refine seg 1 [] [3, 10, 11, 12, 13] [(3, (.map (some g10))), (10, (.slice A_p0 p0.length c_p0)), (11, (iv (p0.length : Int))), (12, (iv x145)), (13, (.bool (decide (x145 < (p0.length : Int)))))] [] (fun fb => by kernel_rfl) rfl trivial ?_
   refine WL.done rfl ?_
   refine WX.next ?_
   refine WC.seq ?_
   rcases br_some hl151 with ⟨h152, hl151⟩ | ⟨h152, hl151⟩
   ·refine WC.condT2 (fun fb => by kernel_rfl) h152 ?_
    refine WC.skip ?_
    refine WX.next ?_
    refine WC.seq ?_
    refine WC.block ?_
    refine WC.seq ?_
    refine WC.region ?_
    obtain ⟨h153, hl151⟩ := as_some hl151
    refine seg 2 [.v (iv ((rdD p0 x145 z_Tile).N)), .v (iv ((rdD p0 x145 z_Tile).E)), .v (iv ((rdD p0 x145 z_Tile).S)), .v (iv ((rdD p0 x145 z_Tile).W))] [3, 10, 11, 12, 15] [(3, (.map (some g10))), (10, (.slice A_p0 p0.length c_p0)), (11, (iv (p0.length : Int))), (12, (iv x145)), (15, (.agg #[(iv ((rdD p0 x145 z_Tile).N)), (iv ((rdD p0 x145 z_Tile).E)), (iv ((rdD p0 x145 z_Tile).S)), (iv ((rdD p0 x145 z_Tile).W))]))] [.idx A_p0 x145 p0.length, .cell ((adr A_p0).add ((x145).toNat * 4)) (iv ((rdD p0 x145 z_Tile).N)), .cell (((adr A_p0).add ((x145).toNat * 4)).add 1) (iv ((rdD p0 x145 z_Tile).E)), .cell (((adr A_p0).add ((x145).toNat * 4)).add 2) (iv ((rdD p0 x145 z_Tile).S)), .cell (((adr A_p0).add ((x145).toNat * 4)).add 3) (iv ((rdD p0 x145 z_Tile).W))] (fun fb => by kernel_rfl) rfl ⟨rowR.adr (hS150.rd 0).1 h153.1 h153.2, rowR.cell (hS150.rd 0).1 z_Tile h153.1 h153.2 0 rfl, rowR.cell (hS150.rd 0).1 z_Tile h153.1 h153.2 1 rfl, rowR.cell (hS150.rd 0).1 z_Tile h153.1 h153.2 2 rfl, rowR.cell (hS150.rd 0).1 z_Tile h153.1 h153.2 3 rfl, trivial⟩ ?_
    refine WL.new hS150 5 [] (fun g => (.pointer (some ⟨g, 0, none⟩))) (.cells #[(iv 0), (iv 0), (iv 0), (iv 0)] 24 (0, 0)) [] (fun fb g => by kernel_rfl) trivial (fun g154 w155 hS156 => ?_)
    refine ⟨trivial, ?_⟩
    refine WL.store hS156 0 rfl [(0, (iv ((rdD p0 x145 z_Tile).N))), (1, (iv ((rdD p0 x145 z_Tile).E))), (2, (iv ((rdD p0 x145 z_Tile).S))), (3, (iv ((rdD p0 x145 z_Tile).W)))] #[(iv ((rdD p0 x145 z_Tile).N)), (iv ((rdD p0 x145 z_Tile).E)), (iv ((rdD p0 x145 z_Tile).S)), (iv ((rdD p0 x145 z_Tile).W))] (fun fb => by kernel_rfl) (by kernel_rfl) rfl [1] (by decide) (by decide) (fun w158 hS159 => ?_)
    refine ⟨trivial, ?_⟩
    refine WL.done rfl ?_
    refine WX.next ?_
    refine WC.seq ?_
    refine WC.seq ?_
    refine WC.region ?_
    refine seg 2 [.v (iv ((rdD p0 x145 z_Tile).N)), .v (iv ((rdD p0 x145 z_Tile).E)), .v (iv ((rdD p0 x145 z_Tile).S)), .v (iv ((rdD p0 x145 z_Tile).W))] [3, 5, 10, 11, 12, 16, 17] [(3, (.map (some g10))), (5, (pt g154)), (10, (.slice A_p0 p0.length c_p0)), (11, (iv (p0.length : Int))), (12, (iv x145)), (16, (.map (some g10))), (17, (.agg #[(iv ((rdD p0 x145 z_Tile).N)), (iv ((rdD p0 x145 z_Tile).E)), (iv ((rdD p0 x145 z_Tile).S)), (iv ((rdD p0 x145 z_Tile).W))]))] [.cell ⟨g154, 0, none⟩ (iv ((rdD p0 x145 z_Tile).N)), .cell ⟨g154, 1, none⟩ (iv ((rdD p0 x145 z_Tile).E)), .cell ⟨g154, 2, none⟩ (iv ((rdD p0 x145 z_Tile).S)), .cell ⟨g154, 3, none⟩ (iv ((rdD p0 x145 z_Tile).W))] (fun fb => by kernel_rfl) rfl ⟨hS159.cell 0 rfl 0 rfl, hS159.cell 0 rfl 1 rfl, hS159.cell 0 rfl 2 rfl, hS159.cell 0 rfl 3 rfl, trivial⟩ ?_
    refine WL.lookup (hS159.own 1).1 (rdD p0 x145 z_Tile) (d := 18) (c := false) (t := 100) (kT := 24) (eT := 4) (z := false) (kE := (aggI ints_Tile)) (vE := vB) (l := l144) (.bool (mget (rdD p0 x145 z_Tile) false l144)) (fun fb => by kernel_rfl) tile_Valid_key24 (by kernel_rfl) (fun _ => by kernel_rfl) rfl ?_
    refine ⟨trivial, ?_⟩
    refine seg 4 [] [3, 5, 10, 11, 12, 19] [(3, (.map (some g10))), (5, (pt g154)), (10, (.slice A_p0 p0.length c_p0)), (11, (iv (p0.length : Int))), (12, (iv x145)), (19, (.bool (mget (rdD p0 x145 z_Tile) false l144)))] [] (fun fb => by kernel_rfl) rfl trivial ?_
    obtain ⟨x171, hx172, hl151⟩ := bind_some hl151
    refine WL.cutW (T := Bool) 16 (fun t => [(3, (.map (some g10))), (5, (pt g154)), (10, (.slice A_p0 p0.length c_p0)), (11, (iv (p0.length : Int))), (12, (iv x145)), (31, (.bool t))]) (fun t w1 => (St NoS w w1 [rowR enc_Tile A_p0 c_p0 p0] [blk g10 (mapObj (aggI ints_Tile) vB l144), blk g154 (.cells #[(iv ((rdD p0 x145 z_Tile).N)), (iv ((rdD p0 x145 z_Tile).E)), (iv ((rdD p0 x145 z_Tile).S)), (iv ((rdD p0 x145 z_Tile).W))] 24 (0, 0))] ∧ x171 = t) ∧ CellsOK [] w1) (fun K => ?_) ?_
    ·
     rcases br_some hx172 with ⟨h173, hx172⟩ | ⟨h173, hx172⟩
     ·
      refine WL.setB 19 h173 rfl ?_
      refine seg 16 [] [3, 5, 10, 11, 12, 31] [(3, (.map (some g10))), (5, (pt g154)), (10, (.slice A_p0 p0.length c_p0)), (11, (iv (p0.length : Int))), (12, (iv x145)), (31, (.bool true))] [] (fun fb => by kernel_rfl) rfl trivial ?_
      injection hx172 with hx172
      exact WL.to K true [3, 5, 10, 11, 12, 31] rfl ⟨⟨(hS159.subR [0]).sub [1, 0] (by decide), hx172.symm⟩, trivial⟩
     refine WL.setB 19 h173 rfl ?_
     refine seg 12 [.v (iv ((rdD p0 x145 z_Tile).N)), .v (iv ((rdD p0 x145 z_Tile).E)), .v (iv ((rdD p0 x145 z_Tile).S)), .v (iv ((rdD p0 x145 z_Tile).W))] [3, 5, 10, 11, 12, 19, 21, 23, 25, 27] [(3, (.map (some g10))), (5, (pt g154)), (10, (.slice A_p0 p0.length c_p0)), (11, (iv (p0.length : Int))), (12, (iv x145)), (19, (.bool false)), (21, (iv ((rdD p0 x145 z_Tile).N))), (23, (iv ((rdD p0 x145 z_Tile).E))), (25, (iv ((rdD p0 x145 z_Tile).S))), (27, (iv ((rdD p0 x145 z_Tile).W)))] [.cell ⟨g154, 0, none⟩ (iv ((rdD p0 x145 z_Tile).N)), .cell ⟨g154, 1, none⟩ (iv ((rdD p0 x145 z_Tile).E)), .cell ⟨g154, 2, none⟩ (iv ((rdD p0 x145 z_Tile).S)), .cell ⟨g154, 3, none⟩ (iv ((rdD p0 x145 z_Tile).W))] (fun fb => by kernel_rfl) rfl ⟨hS159.cell 0 rfl 0 rfl, hS159.cell 0 rfl 1 rfl, hS159.cell 0 rfl 2 rfl, hS159.cell 0 rfl 3 rfl, trivial⟩ ?_
     refine WL.new hS159 28 [] (fun g => (.slice (some ⟨g, 0, none⟩) 4 4)) (.cells #[(iv ((rdD p0 x145 z_Tile).N)), (iv ((rdD p0 x145 z_Tile).E)), (iv ((rdD p0 x145 z_Tile).S)), (iv ((rdD p0 x145 z_Tile).W))] 3 (0, 0)) [] (fun fb g => by kernel_rfl) trivial (fun g174 w175 hS176 => ?_)
     refine ⟨trivial, ?_⟩
     have hS178 : St NoS w w175 [rowR enc_Tile A_p0 c_p0 p0] [rowO 3 encInt (some ⟨g174, 0, none⟩) 4 [(rdD p0 x145 z_Tile).N, (rdD p0 x145 z_Tile).E, (rdD p0 x145 z_Tile).S, (rdD p0 x145 z_Tile).W], blk g154 (.cells #[(iv ((rdD p0 x145 z_Tile).N)), (iv ((rdD p0 x145 z_Tile).E)), (iv ((rdD p0 x145 z_Tile).S)), (iv ((rdD p0 x145 z_Tile).W))] 24 (0, 0)), blk g10 (mapObj (aggI ints_Tile) vB l144)] := hS176.map1 0 _ (fun h => rowO.ofBlk h rfl (Nat.le_of_ble_eq_true (by kernel_rfl))) (fun _ h => by obtain ⟨_, h1, h2⟩ := h; injection h1 with h1; subst h1; exact h2) [1, 2] (by decide) (by decide)
     obtain ⟨t179, ht180, hx172⟩ := bind_some hx172
     refine WL.call (some 29) 59 #[(.slice (some ⟨g174, 0, none⟩) [(rdD p0 x145 z_Tile).N, (rdD p0 x145 z_Tile).E, (rdD p0 x145 z_Tile).S, (rdD p0 x145 z_Tile).W].length 4)] (fun fb => by kernel_rfl) (tile_colour_calls _ [(rdD p0 x145 z_Tile).N, (rdD p0 x145 z_Tile).E, (rdD p0 x145 z_Tile).S, (rdD p0 x145 z_Tile).W] (some ⟨g174, 0, none⟩) 4 t179 _ (hS178.ow 0).ofO ht180) (fun v w181 hR182 => ?_)
     obtain ⟨rfl, hk_⟩ := hR182
     have hS183 := hS178.keepN hk_
     refine ⟨trivial, ?_⟩
     refine seg 16 [] [3, 5, 10, 11, 12, 31] [(3, (.map (some g10))), (5, (pt g154)), (10, (.slice A_p0 p0.length c_p0)), (11, (iv (p0.length : Int))), (12, (iv x145)), (31, (.bool (!t179)))] [] (fun fb => by kernel_rfl) rfl trivial ?_
     injection hx172 with hx172
     exact WL.to K (!t179) [3, 5, 10, 11, 12, 31] rfl ⟨⟨(hS183.subR [0]).sub [2, 1] (by decide), hx172.symm⟩, trivial⟩
    rintro y184 w186 ⟨⟨hS187, hq185⟩, hF188⟩
    subst hq185
    refine WL.done rfl ?_
    refine WX.next ?_
    rcases br_some hl151 with ⟨h189, hl151⟩ | ⟨h189, hl151⟩
    ·refine WC.condT2 (fun fb => by kernel_rfl) h189 ?_
     refine WC.seq ?_
     refine WC.region ?_
     refine seg 1 [] [2] [(2, (.bool false))] [] (fun fb => by kernel_rfl) rfl trivial ?_
     refine WL.done rfl ?_
     refine WX.next ?_
     refine WC.ret ?_
     injection hl151 with hl151
     subst hl151
     injection hf with hf
     subst hf
     exact WX.thenR (WX.blockR (WX.thenR (WX.thenR (WX.blockR (WX.thenR (WX.ret_ [] (.bool false) [] (fun fb => by kernel_rfl) trivial ⟨_, rfl, rfl, hS187.keep⟩))))))
    refine WC.condF2 (fun fb => by kernel_rfl) h189 ?_
    refine WC.skip ?_
    refine WX.next ?_
    refine WC.region ?_
    refine seg 2 [.v (iv ((rdD p0 x145 z_Tile).N)), .v (iv ((rdD p0 x145 z_Tile).E)), .v (iv ((rdD p0 x145 z_Tile).S)), .v (iv ((rdD p0 x145 z_Tile).W))] [3, 10, 11, 12, 32, 33] [(3, (.map (some g10))), (10, (.slice A_p0 p0.length c_p0)), (11, (iv (p0.length : Int))), (12, (iv x145)), (32, (.map (some g10))), (33, (.agg #[(iv ((rdD p0 x145 z_Tile).N)), (iv ((rdD p0 x145 z_Tile).E)), (iv ((rdD p0 x145 z_Tile).S)), (iv ((rdD p0 x145 z_Tile).W))]))] [.cell ⟨g154, 0, none⟩ (iv ((rdD p0 x145 z_Tile).N)), .cell ⟨g154, 1, none⟩ (iv ((rdD p0 x145 z_Tile).E)), .cell ⟨g154, 2, none⟩ (iv ((rdD p0 x145 z_Tile).S)), .cell ⟨g154, 3, none⟩ (iv ((rdD p0 x145 z_Tile).W))] (fun fb => by kernel_rfl) rfl ⟨hS187.cell 1 rfl 0 rfl, hS187.cell 1 rfl 1 rfl, hS187.cell 1 rfl 2 rfl, hS187.cell 1 rfl 3 rfl, trivial⟩ ?_
    refine WL.mapput hS187 0 (t := 100) (kT := 24) (eT := 4) (kE := (aggI ints_Tile)) (vE := vB) (l := l144) rfl (rdD p0 x145 z_Tile) true (fun fb => by kernel_rfl) tile_Valid_key24 (by kernel_rfl) [1] (by decide) (by decide) (fun w190 hS191 => ?_)
    refine ⟨trivial, ?_⟩
    refine WL.done rfl ?_
    refine WX.blockN (WX.next ?_)
    refine WC.region ?_
    refine seg 2 [] [3, 10, 11, 12] [(3, (.map (some g10))), (10, (.slice A_p0 p0.length c_p0)), (11, (iv (p0.length : Int))), (12, (iv (w64 (x145 + 1))))] [] (fun fb => by kernel_rfl) rfl trivial ?_
    refine WL.done rfl ?_
    exact WX.again k148 (Nat.lt_succ_self _) (mput (rdD p0 x145 z_Tile) true l144, w64 (x145 + 1)) [3, 10, 11, 12] rfl ⟨(hS191.subR [0]).sub [0] (by decide), hl151⟩
   refine WC.condF2 (fun fb => by kernel_rfl) h152 ?_
   refine WC.exit ?_
   injection hl151 with hl151
   exact WX.thenX (WX.thenX (WX.blockHere (WX.to Kx146 () [] rfl ⟨(hS150.subR [0]).sub [] (by decide), hl151.symm⟩)))
 rintro y195 w192 ⟨hS193, hq194⟩
 subst hq194
 have hf := sum_inr hf
 refine WX.next ?_
 refine WC.seq ?_
 refine WC.region ?_
 refine seg 1 [] [2] [(2, (.bool true))] [] (fun fb => by kernel_rfl) rfl trivial ?_
 refine WL.done rfl ?_
 refine WX.next ?_
 refine WC.ret ?_
 injection hf with hf
 subst hf
 exact WX.ret_ [] (.bool true) [] (fun fb => by kernel_rfl) trivial ⟨_, rfl, rfl, hS193.keep⟩
theorem decide_asks_calls (k : Nat) (p0 : List Tile) (A_p0 : Option Addr) (c_p0 : Nat) (r : Int) (w : World) (hR0 : RO NoS w (rowR enc_Tile A_p0 c_p0 p0)) (hf : decide_asks k p0 = some r) :
  CallsR Try.prog 43 #[(.slice A_p0 p0.length c_p0)] w (fun v w' => v = (iv r) ∧ Keeps NoS w w') := by
 have hS : St NoS w w [rowR enc_Tile A_p0 c_p0 p0] [] := St.init (ro_cons hR0 (ro_nil _ _))
 refine enter 11 Try.func43 rfl Try.ntmps43 rfl ?_
 unfold decide_asks at hf
 refine WC.seq ?_
 refine WC.region ?_
 refine seg 1 [] [0] [(0, (.slice A_p0 p0.length c_p0))] [] (fun fb => by kernel_rfl) rfl trivial ?_
 refine WL.done rfl ?_
 refine WX.next ?_
 refine WC.seq ?_
 refine WC.block ?_
 refine WC.seq ?_
 refine WC.region ?_
 refine seg 1 [] [0, 4] [(0, (.slice A_p0 p0.length c_p0)), (4, (.slice A_p0 p0.length c_p0))] [] (fun fb => by kernel_rfl) rfl trivial ?_
 obtain ⟨t197, ht198, hf⟩ := bind_some hf
 refine WL.call (some 5) 38 #[(.slice A_p0 p0.length c_p0)] (fun fb => by kernel_rfl) (tile_Valid_calls _ p0 A_p0 c_p0 t197 _ (hS.rd 0) ht198) (fun v w199 hR200 => ?_)
 obtain ⟨rfl, hk_⟩ := hR200
 have hS201 := hS.keepN hk_
 refine ⟨trivial, ?_⟩
 refine seg 4 [] [0, 3] [(0, (.slice A_p0 p0.length c_p0)), (3, (.bool (!t197)))] [] (fun fb => by kernel_rfl) rfl trivial ?_
 refine WL.done rfl ?_
 refine WX.next ?_
 rcases br_some hf with ⟨h202, hf⟩ | ⟨h202, hf⟩
 ·refine WC.condT2 (fun fb => by kernel_rfl) h202 ?_
  refine WC.seq ?_
  refine WC.region ?_
  refine seg 1 [] [2] [(2, (iv 1))] [] (fun fb => by kernel_rfl) rfl trivial ?_
  refine WL.done rfl ?_
  refine WX.next ?_
  refine WC.ret ?_
  injection hf with hf
  subst hf
  exact WX.blockR (WX.thenR (WX.ret_ [] (iv 1) [] (fun fb => by kernel_rfl) trivial ⟨_, rfl, rfl, hS201.keep⟩))
 refine WC.condF2 (fun fb => by kernel_rfl) h202 ?_
 refine WC.seq ?_
 refine WC.region ?_
 refine seg 4 [] [7] [(7, (.bool (decide ((p0.length : Int) > 3))))] [] (fun fb => by kernel_rfl) rfl trivial ?_
 refine WL.done rfl ?_
 refine WX.next ?_
 rcases br_some hf with ⟨h203, hf⟩ | ⟨h203, hf⟩
 ·refine WC.condT2 (fun fb => by kernel_rfl) h203 ?_
  refine WC.seq ?_
  refine WC.region ?_
  refine seg 1 [] [2] [(2, (iv 2))] [] (fun fb => by kernel_rfl) rfl trivial ?_
  refine WL.done rfl ?_
  refine WX.next ?_
  refine WC.ret ?_
  injection hf with hf
  subst hf
  exact WX.blockR (WX.thenR (WX.ret_ [] (iv 2) [] (fun fb => by kernel_rfl) trivial ⟨_, rfl, rfl, hS201.keep⟩))
 refine WC.condF2 (fun fb => by kernel_rfl) h203 ?_
 refine WC.skip ?_
 refine WX.blockN (WX.next ?_)
 refine WC.seq ?_
 refine WC.region ?_
 refine seg 1 [] [2] [(2, (iv 0))] [] (fun fb => by kernel_rfl) rfl trivial ?_
 refine WL.done rfl ?_
 refine WX.next ?_
 refine WC.ret ?_
 injection hf with hf
 subst hf
 exact WX.ret_ [] (iv 0) [] (fun fb => by kernel_rfl) trivial ⟨_, rfl, rfl, hS201.keep⟩
theorem decide_sides_calls (p0 : List Tile) (A_p0 : Option Addr) (c_p0 : Nat) (r : Unit) (w : World) (hR0 : RO NoS w (rowR enc_Tile A_p0 c_p0 p0)) (hf : decide_sides p0 = some r) :
  CallsR Try.prog 44 #[(.slice A_p0 p0.length c_p0)] w (fun v w' => ∃ (g1_ : Nat), v = (.func (.func 61) #[] #[(.pointer (some ⟨g1_, 0, none⟩))]) ∧ St NoS w w' [] [blk g1_ (.cells #[(.slice A_p0 p0.length c_p0)] 22 (0, 0))]) := by
 have hS : St NoS w w [rowR enc_Tile A_p0 c_p0 p0] [] := St.init (ro_cons hR0 (ro_nil _ _))
 refine enter 4 Try.func44 rfl Try.ntmps44 rfl ?_
 unfold decide_sides at hf
 refine WC.seq ?_
 refine WC.region ?_
 refine WL.new hS 1 [] (fun g => (.pointer (some ⟨g, 0, none⟩))) (.cells #[(.slice A_p0 p0.length c_p0)] 22 (0, 0)) [] (fun fb g => by kernel_rfl) trivial (fun g215 w216 hS217 => ?_)
 refine ⟨trivial, ?_⟩
 refine seg 2 [] [1] [(1, (pt g215))] [] (fun fb => by kernel_rfl) rfl trivial ?_
 refine WL.done rfl ?_
 refine WX.next ?_
 refine WC.seq ?_
 refine WC.region ?_
 refine seg 2 [] [2] [(2, (.func (.func 61) #[] #[(pt g215)]))] [] (fun fb => by kernel_rfl) rfl trivial ?_
 refine WL.done rfl ?_
 refine WX.next ?_
 refine WC.ret ?_
 injection hf with hf
 subst hf
 exact WX.ret_ [] (.func (.func 61) #[] #[(pt g215)]) [] (fun fb => by kernel_rfl) trivial ⟨_, rfl, g215, rfl, (hS217.sub [0] (by decide)).noR⟩
theorem rows_Few_calls (k : Nat) (p0 : List Tile) (p1 : Int) (A_p0 : Option Addr) (c_p0 : Nat) (r : Bool) (w : World) (hR0 : RO NoS w (rowR enc_Tile A_p0 c_p0 p0)) (hf : rows_Few k p0 p1 = some r) :
  CallsR Try.prog 45 #[(.slice A_p0 p0.length c_p0), (iv p1)] w (fun v w' => v = (.bool r) ∧ Keeps NoS w w') := by
 have hS : St NoS w w [rowR enc_Tile A_p0 c_p0 p0] [] := St.init (ro_cons hR0 (ro_nil _ _))
 refine enter 17 Try.func45 rfl Try.ntmps45 rfl ?_
 unfold rows_Few at hf
 refine WC.seq ?_
 refine WC.region ?_
 refine seg 1 [] [0, 1] [(0, (.slice A_p0 p0.length c_p0)), (1, (iv p1))] [] (fun fb => by kernel_rfl) rfl trivial ?_
 refine WL.done rfl ?_
 refine WX.next ?_
 refine WC.seq ?_
 refine WC.region ?_
 refine seg 1 [] [0, 1, 5] [(0, (.slice A_p0 p0.length c_p0)), (1, (iv p1)), (5, (iv 1))] [] (fun fb => by kernel_rfl) rfl trivial ?_
 refine WL.done rfl ?_
 refine WX.next ?_
 refine WC.seq ?_
 refine WC.seq ?_
 refine WC.region ?_
 refine seg 2 [] [0, 5, 6, 7] [(0, (.slice A_p0 p0.length c_p0)), (5, (iv 1)), (6, (iv p1)), (7, (iv 0))] [] (fun fb => by kernel_rfl) rfl trivial ?_
 refine WL.done rfl ?_
 refine WX.next ?_
 obtain ⟨x290, hx291, hf⟩ := bind_some hf
 refine WC.cutN (T := Unit) (fun t => []) (fun t w1 => St NoS w w1 [rowR enc_Tile A_p0 c_p0 p0] [] ∧ x290 = .inr t) (fun Kx290 => ?_) ?_
 ·
  refine WC.block ?_
  refine WC.loop (T := Int × Int) (fun t => [(0, (.slice A_p0 p0.length c_p0)), (5, (iv t.1)), (6, (iv p1)), (7, (iv t.2))]) (fun n t w1 => St NoS w w1 [rowR enc_Tile A_p0 c_p0 p0] [] ∧ rows_Few.l0 n t.1 t.2 p0 p1 = some x290) k (1, 0) [0, 5, 6, 7] rfl ⟨(hS.subR [0]).sub [] (by decide), hx291⟩ ?_
  rintro k292 ⟨x288, x289⟩ w293 ⟨hS294, hl295⟩
  cases k292 with
  | zero => rw [rows_Few.l0] at hl295; cases hl295
  | succ k292 =>
   rw [rows_Few.l0] at hl295
   refine WC.seq ?_
   refine WC.region ?_
   refine seg 1 [] [0, 5, 6, 7, 8] [(0, (.slice A_p0 p0.length c_p0)), (5, (iv x288)), (6, (iv p1)), (7, (iv x289)), (8, (.bool (decide (x289 < p1))))] [] (fun fb => by kernel_rfl) rfl trivial ?_
   refine WL.done rfl ?_
   refine WX.next ?_
   refine WC.seq ?_
   rcases br_some hl295 with ⟨h296, hl295⟩ | ⟨h296, hl295⟩
   ·refine WC.condT2 (fun fb => by kernel_rfl) h296 ?_
    refine WC.skip ?_
    refine WX.next ?_
    refine WC.seq ?_
    refine WC.block ?_
    refine WC.seq ?_
    refine WC.region ?_
    refine seg 6 [] [0, 5, 6, 7] [(0, (.slice A_p0 p0.length c_p0)), (5, (iv (w64 (x288 * (maxI (p0.length : Int) 1))))), (6, (iv p1)), (7, (iv x289))] [] (fun fb => by kernel_rfl) rfl trivial ?_
    refine WL.done rfl ?_
    refine WX.next ?_
    refine WC.seq ?_
    refine WC.region ?_
    refine seg 2 [] [0, 5, 6, 7, 15] [(0, (.slice A_p0 p0.length c_p0)), (5, (iv (w64 (x288 * (maxI (p0.length : Int) 1))))), (6, (iv p1)), (7, (iv x289)), (15, (.bool (decide (w64 (x288 * (maxI (p0.length : Int) 1)) > 5000))))] [] (fun fb => by kernel_rfl) rfl trivial ?_
    refine WL.done rfl ?_
    refine WX.next ?_
    rcases br_some hl295 with ⟨h297, hl295⟩ | ⟨h297, hl295⟩
    ·refine WC.condT2 (fun fb => by kernel_rfl) h297 ?_
     refine WC.seq ?_
     refine WC.region ?_
     refine seg 1 [] [4] [(4, (.bool false))] [] (fun fb => by kernel_rfl) rfl trivial ?_
     refine WL.done rfl ?_
     refine WX.next ?_
     refine WC.ret ?_
     injection hl295 with hl295
     subst hl295
     injection hf with hf
     subst hf
     exact WX.blockR (WX.thenR (WX.thenR (WX.blockR (WX.thenR (WX.ret_ [] (.bool false) [] (fun fb => by kernel_rfl) trivial ⟨_, rfl, rfl, hS294.keep⟩)))))
    refine WC.condF2 (fun fb => by kernel_rfl) h297 ?_
    refine WC.skip ?_
    refine WX.blockN (WX.next ?_)
    refine WC.region ?_
    refine seg 2 [] [0, 5, 6, 7] [(0, (.slice A_p0 p0.length c_p0)), (5, (iv (w64 (x288 * (maxI (p0.length : Int) 1))))), (6, (iv p1)), (7, (iv (w64 (x289 + 1))))] [] (fun fb => by kernel_rfl) rfl trivial ?_
    refine WL.done rfl ?_
    exact WX.again k292 (Nat.lt_succ_self _) (w64 (x288 * (maxI (p0.length : Int) 1)), w64 (x289 + 1)) [0, 5, 6, 7] rfl ⟨(hS294.subR [0]).sub [] (by decide), hl295⟩
   refine WC.condF2 (fun fb => by kernel_rfl) h296 ?_
   refine WC.exit ?_
   injection hl295 with hl295
   exact WX.thenX (WX.thenX (WX.blockHere (WX.to Kx290 () [] rfl ⟨(hS294.subR [0]).sub [] (by decide), hl295.symm⟩)))
 rintro y301 w298 ⟨hS299, hq300⟩
 subst hq300
 have hf := sum_inr hf
 refine WX.next ?_
 refine WC.seq ?_
 refine WC.region ?_
 refine seg 1 [] [4] [(4, (.bool true))] [] (fun fb => by kernel_rfl) rfl trivial ?_
 refine WL.done rfl ?_
 refine WX.next ?_
 refine WC.ret ?_
 injection hf with hf
 subst hf
 exact WX.ret_ [] (.bool true) [] (fun fb => by kernel_rfl) trivial ⟨_, rfl, rfl, hS299.keep⟩
theorem square_check_calls (k : Nat) (p0 : List Tile) (p1 : Int) (A_p0 : Option Addr) (c_p0 : Nat) (r : Int) (w : World) (hR0 : RO NoS w (rowR enc_Tile A_p0 c_p0 p0)) (hf : square_check k p0 p1 = some r) :
  CallsR Try.prog 41 #[(.slice A_p0 p0.length c_p0), (iv p1)] w (fun v w' => v = (iv r) ∧ Keeps NoS w w') := by
 have hS : St NoS w w [rowR enc_Tile A_p0 c_p0 p0] [] := St.init (ro_cons hR0 (ro_nil _ _))
 refine enter 21 Try.func41 rfl Try.ntmps41 rfl ?_
 unfold square_check at hf
 refine WC.seq ?_
 refine WC.region ?_
 refine seg 1 [] [0, 1] [(0, (.slice A_p0 p0.length c_p0)), (1, (iv p1))] [] (fun fb => by kernel_rfl) rfl trivial ?_
 refine WL.done rfl ?_
 refine WX.next ?_
 refine WC.seq ?_
 refine WC.block ?_
 refine WC.seq ?_
 refine WC.region ?_
 refine seg 1 [] [0, 1, 6] [(0, (.slice A_p0 p0.length c_p0)), (1, (iv p1)), (6, (.slice A_p0 p0.length c_p0))] [] (fun fb => by kernel_rfl) rfl trivial ?_
 obtain ⟨t273, ht274, hf⟩ := bind_some hf
 refine WL.call (some 7) 38 #[(.slice A_p0 p0.length c_p0)] (fun fb => by kernel_rfl) (tile_Valid_calls _ p0 A_p0 c_p0 t273 _ (hS.rd 0) ht274) (fun v w275 hR276 => ?_)
 obtain ⟨rfl, hk_⟩ := hR276
 have hS277 := hS.keepN hk_
 refine ⟨trivial, ?_⟩
 refine seg 4 [] [0, 1, 5] [(0, (.slice A_p0 p0.length c_p0)), (1, (iv p1)), (5, (.bool (!t273)))] [] (fun fb => by kernel_rfl) rfl trivial ?_
 refine WL.done rfl ?_
 refine WX.next ?_
 rcases br_some hf with ⟨h278, hf⟩ | ⟨h278, hf⟩
 ·refine WC.condT2 (fun fb => by kernel_rfl) h278 ?_
  refine WC.seq ?_
  refine WC.region ?_
  refine seg 1 [] [4] [(4, (iv 1))] [] (fun fb => by kernel_rfl) rfl trivial ?_
  refine WL.done rfl ?_
  refine WX.next ?_
  refine WC.ret ?_
  injection hf with hf
  subst hf
  exact WX.blockR (WX.thenR (WX.ret_ [] (iv 1) [] (fun fb => by kernel_rfl) trivial ⟨_, rfl, rfl, hS277.keep⟩))
 refine WC.condF2 (fun fb => by kernel_rfl) h278 ?_
 refine WC.seq ?_
 refine WC.region ?_
 refine seg 3 [] [0, 1, 12] [(0, (.slice A_p0 p0.length c_p0)), (1, (iv p1)), (12, (.bool (decide (p1 < 1))))] [] (fun fb => by kernel_rfl) rfl trivial ?_
 refine WL.cutV (T := Bool) 6 (fun t => [(15, (.bool t)), (0, (.slice A_p0 p0.length c_p0)), (1, (iv p1))]) (fun t => ((decide (p1 < 1)) || (decide (p1 > 8))) = t) (fun K => ?_) ?_
 ·
  rcases Bool.eq_false_or_eq_true (decide (p1 < 1)) with h279 | h279
  ·
   refine WL.setB 12 h279 rfl ?_
   refine seg 6 [] [0, 1, 15] [(0, (.slice A_p0 p0.length c_p0)), (1, (iv p1)), (15, (.bool true))] [] (fun fb => by kernel_rfl) rfl trivial ?_
   exact WL.toV K true [15, 0, 1] rfl (by first | (rw [h279]; done) | (rw [h279]; rfl))
  refine WL.setB 12 h279 rfl ?_
  refine seg 6 [] [0, 1, 15] [(0, (.slice A_p0 p0.length c_p0)), (1, (iv p1)), (15, (.bool (decide (p1 > 8))))] [] (fun fb => by kernel_rfl) rfl trivial ?_
  exact WL.toV K (decide (p1 > 8)) [15, 0, 1] rfl (by first | (rw [h279]; done) | (rw [h279]; rfl))
 rintro b280 rfl
 refine seg 7 [] [0, 1, 9] [(0, (.slice A_p0 p0.length c_p0)), (1, (iv p1)), (9, (.bool ((decide (p1 < 1)) || (decide (p1 > 8)))))] [] (fun fb => by kernel_rfl) rfl trivial ?_
 refine WL.done rfl ?_
 refine WX.next ?_
 rcases br_some hf with ⟨h281, hf⟩ | ⟨h281, hf⟩
 ·refine WC.condT2 (fun fb => by kernel_rfl) h281 ?_
  refine WC.seq ?_
  refine WC.region ?_
  refine seg 1 [] [4] [(4, (iv 2))] [] (fun fb => by kernel_rfl) rfl trivial ?_
  refine WL.done rfl ?_
  refine WX.next ?_
  refine WC.ret ?_
  injection hf with hf
  subst hf
  exact WX.blockR (WX.thenR (WX.ret_ [] (iv 2) [] (fun fb => by kernel_rfl) trivial ⟨_, rfl, rfl, hS277.keep⟩))
 refine WC.condF2 (fun fb => by kernel_rfl) h281 ?_
 refine WC.seq ?_
 refine WC.region ?_
 refine seg 2 [] [17, 18] [(17, (.slice A_p0 p0.length c_p0)), (18, (iv p1))] [] (fun fb => by kernel_rfl) rfl trivial ?_
 obtain ⟨t303, ht304, hf⟩ := bind_some hf
 refine WL.call (some 19) 45 #[(.slice A_p0 p0.length c_p0), (iv p1)] (fun fb => by kernel_rfl) (rows_Few_calls _ p0 p1 A_p0 c_p0 t303 _ (hS277.rd 0) ht304) (fun v w305 hR306 => ?_)
 obtain ⟨rfl, hk_⟩ := hR306
 have hS307 := hS277.keepN hk_
 refine ⟨trivial, ?_⟩
 refine seg 5 [] [16] [(16, (.bool (!t303)))] [] (fun fb => by kernel_rfl) rfl trivial ?_
 refine WL.done rfl ?_
 refine WX.next ?_
 rcases br_some hf with ⟨h308, hf⟩ | ⟨h308, hf⟩
 ·refine WC.condT2 (fun fb => by kernel_rfl) h308 ?_
  refine WC.seq ?_
  refine WC.region ?_
  refine seg 1 [] [4] [(4, (iv 4))] [] (fun fb => by kernel_rfl) rfl trivial ?_
  refine WL.done rfl ?_
  refine WX.next ?_
  refine WC.ret ?_
  injection hf with hf
  subst hf
  exact WX.blockR (WX.thenR (WX.ret_ [] (iv 4) [] (fun fb => by kernel_rfl) trivial ⟨_, rfl, rfl, hS307.keep⟩))
 refine WC.condF2 (fun fb => by kernel_rfl) h308 ?_
 refine WC.skip ?_
 refine WX.blockN (WX.next ?_)
 refine WC.seq ?_
 refine WC.region ?_
 refine seg 1 [] [4] [(4, (iv 0))] [] (fun fb => by kernel_rfl) rfl trivial ?_
 refine WL.done rfl ?_
 refine WX.next ?_
 refine WC.ret ?_
 injection hf with hf
 subst hf
 exact WX.ret_ [] (iv 0) [] (fun fb => by kernel_rfl) trivial ⟨_, rfl, rfl, hS307.keep⟩
theorem rows_rowOf_calls (k : Nat) (p0 : List Tile) (p1 : List Int) (A_p0 : Option Addr) (c_p0 : Nat) (A_p1 : Option Addr) (c_p1 : Nat) (r : Row) (w : World) (hR0 : RO NoS w (rowR enc_Tile A_p0 c_p0 p0)) (hR1 : RO NoS w (rowR encInt A_p1 c_p1 p1)) (hf : rows_rowOf k p0 p1 = some r) :
  CallsR Try.prog 83 #[(.slice A_p0 p0.length c_p0), (.slice A_p1 p1.length c_p1)] w (fun v w' => ∃ (A1_ : Option Addr), ∃ (c1_ : Nat), v = (.agg #[(.slice A1_ r.Cells.length c1_), (iv r.South.e0), (iv r.South.e1), (iv r.South.e2), (iv r.South.e3), (iv r.South.e4), (iv r.South.e5), (iv r.South.e6), (iv r.South.e7), (iv r.North.e0), (iv r.North.e1), (iv r.North.e2), (iv r.North.e3), (iv r.North.e4), (iv r.North.e5), (iv r.North.e6), (iv r.North.e7), (iv r.West), (iv r.East)]) ∧ St NoS w w' [] [rowO 3 encInt A1_ c1_ r.Cells]) := by
 have hS : St NoS w w [rowR enc_Tile A_p0 c_p0 p0, rowR encInt A_p1 c_p1 p1] [] := St.init (ro_cons hR0 (ro_cons hR1 (ro_nil _ _)))
 refine enter 55 Try.func83 rfl Try.ntmps83 rfl ?_
 unfold rows_rowOf at hf
 refine WC.seq ?_
 refine WC.region ?_
 refine WL.new hS 4 [] (fun g => (.pointer (some ⟨g, 0, none⟩))) (.cells #[(.slice none 0 0), (iv 0), (iv 0), (iv 0), (iv 0), (iv 0), (iv 0), (iv 0), (iv 0), (iv 0), (iv 0), (iv 0), (iv 0), (iv 0), (iv 0), (iv 0), (iv 0), (iv 0), (iv 0)] 88 (0, 0)) [] (fun fb g => by kernel_rfl) trivial (fun g427 w428 hS429 => ?_)
 refine ⟨trivial, ?_⟩
 refine WL.done rfl ?_
 refine WX.next ?_
 refine WC.seq ?_
 refine WC.region ?_
 refine seg 1 [] [0, 1, 4, 8] [(0, (.slice A_p0 p0.length c_p0)), (1, (.slice A_p1 p1.length c_p1)), (4, (pt g427)), (8, (.slice A_p1 p1.length c_p1))] [] (fun fb => by kernel_rfl) rfl trivial ?_
 have hS431 := hS429.nilrow 3 encInt
 obtain ⟨h432, hf⟩ := as_some hf
 refine WL.append hS431 0 (d := 9) (tS := 36) (z := (iv 0)) (bytes := 8) (c2 := c_p1) rfl (fun fb => by kernel_rfl) (hS431.rd 1).1 (by kernel_rfl) (by kernel_rfl) rfl (by decide) h432 (by decide) [1] (by decide) (by decide) (fun A433 c434 w435 hS436 => ?_)
 refine ⟨trivial, ?_⟩
 refine seg 3 [] [0, 1, 4, 10] [(0, (.slice A_p0 p0.length c_p0)), (1, (.slice A_p1 p1.length c_p1)), (4, (pt g427)), (10, (.agg #[(.slice A433 (([] : List Int) ++ p1).length c434), (iv 0), (iv 0), (iv 0), (iv 0), (iv 0), (iv 0), (iv 0), (iv 0), (iv 0), (iv 0), (iv 0), (iv 0), (iv 0), (iv 0), (iv 0), (iv 0), (iv 0), (iv 0)]))] [] (fun fb => by kernel_rfl) rfl trivial ?_
 refine WL.new hS436 5 [] (fun g => (.pointer (some ⟨g, 0, none⟩))) (.cells #[(.slice none 0 0), (iv 0), (iv 0), (iv 0), (iv 0), (iv 0), (iv 0), (iv 0), (iv 0), (iv 0), (iv 0), (iv 0), (iv 0), (iv 0), (iv 0), (iv 0), (iv 0), (iv 0), (iv 0)] 88 (0, 0)) [] (fun fb g => by kernel_rfl) trivial (fun g437 w438 hS439 => ?_)
 refine ⟨trivial, ?_⟩
 refine WL.store hS439 0 rfl [(0, (.slice A433 (([] : List Int) ++ p1).length c434)), (1, (iv 0)), (2, (iv 0)), (3, (iv 0)), (4, (iv 0)), (5, (iv 0)), (6, (iv 0)), (7, (iv 0)), (8, (iv 0)), (9, (iv 0)), (10, (iv 0)), (11, (iv 0)), (12, (iv 0)), (13, (iv 0)), (14, (iv 0)), (15, (iv 0)), (16, (iv 0)), (17, (iv 0)), (18, (iv 0))] #[(.slice A433 (([] : List Int) ++ p1).length c434), (iv 0), (iv 0), (iv 0), (iv 0), (iv 0), (iv 0), (iv 0), (iv 0), (iv 0), (iv 0), (iv 0), (iv 0), (iv 0), (iv 0), (iv 0), (iv 0), (iv 0), (iv 0)] (fun fb => by kernel_rfl) (by kernel_rfl) (by kernel_rfl) [1, 2] (by decide) (by decide) (fun w441 hS442 => ?_)
 refine ⟨trivial, ?_⟩
 refine WL.done rfl ?_
 refine WX.next ?_
 refine WC.seq ?_
 refine WC.seq ?_
 refine WC.region ?_
 refine seg 3 [] [0, 1, 4, 5, 11, 12, 13] [(0, (.slice A_p0 p0.length c_p0)), (1, (.slice A_p1 p1.length c_p1)), (4, (pt g427)), (5, (pt g437)), (11, (.slice A_p1 p1.length c_p1)), (12, (iv (p1.length : Int))), (13, (iv 0))] [] (fun fb => by kernel_rfl) rfl trivial ?_
 refine WL.done rfl ?_
 refine WX.next ?_
 obtain ⟨x521, hx522, hf⟩ := bind_some hf
 refine WC.cutN (T := A8_Int × A8_Int) (fun t => [(0, (.slice A_p0 p0.length c_p0)), (1, (.slice A_p1 p1.length c_p1)), (4, (pt g427)), (5, (pt g437))]) (fun t w1 => St NoS w w1 [rowR enc_Tile A_p0 c_p0 p0, rowR encInt A_p1 c_p1 p1] [blk g427 (.cells #[(.slice none 0 0), (iv 0), (iv 0), (iv 0), (iv 0), (iv 0), (iv 0), (iv 0), (iv 0), (iv 0), (iv 0), (iv 0), (iv 0), (iv 0), (iv 0), (iv 0), (iv 0), (iv 0), (iv 0)] 88 (0, 0)), blk g437 (.cells #[(.slice A433 (([] : List Int) ++ p1).length c434), (iv t.1.e0), (iv t.1.e1), (iv t.1.e2), (iv t.1.e3), (iv t.1.e4), (iv t.1.e5), (iv t.1.e6), (iv t.1.e7), (iv t.2.e0), (iv t.2.e1), (iv t.2.e2), (iv t.2.e3), (iv t.2.e4), (iv t.2.e5), (iv t.2.e6), (iv t.2.e7), (iv 0), (iv 0)] 88 (0, 0)), rowO 3 encInt A433 c434 (([] : List Int) ++ p1)] ∧ x521 = t) (fun Kx521 => ?_) ?_
 ·
  refine WC.block ?_
  refine WC.loop (T := A8_Int × A8_Int × Int) (fun t => [(0, (.slice A_p0 p0.length c_p0)), (1, (.slice A_p1 p1.length c_p1)), (4, (pt g427)), (5, (pt g437)), (11, (.slice A_p1 p1.length c_p1)), (12, (iv (p1.length : Int))), (13, (iv t.2.2))]) (fun n t w1 => St NoS w w1 [rowR enc_Tile A_p0 c_p0 p0, rowR encInt A_p1 c_p1 p1] [blk g427 (.cells #[(.slice none 0 0), (iv 0), (iv 0), (iv 0), (iv 0), (iv 0), (iv 0), (iv 0), (iv 0), (iv 0), (iv 0), (iv 0), (iv 0), (iv 0), (iv 0), (iv 0), (iv 0), (iv 0), (iv 0)] 88 (0, 0)), blk g437 (.cells #[(.slice A433 (([] : List Int) ++ p1).length c434), (iv t.1.e0), (iv t.1.e1), (iv t.1.e2), (iv t.1.e3), (iv t.1.e4), (iv t.1.e5), (iv t.1.e6), (iv t.1.e7), (iv t.2.1.e0), (iv t.2.1.e1), (iv t.2.1.e2), (iv t.2.1.e3), (iv t.2.1.e4), (iv t.2.1.e5), (iv t.2.1.e6), (iv t.2.1.e7), (iv 0), (iv 0)] 88 (0, 0)), rowO 3 encInt A433 c434 (([] : List Int) ++ p1)] ∧ rows_rowOf.l0 n t.1 t.2.1 t.2.2 p0 p1 = some x521) k ((A8_Int.mk 0 0 0 0 0 0 0 0), (A8_Int.mk 0 0 0 0 0 0 0 0), 0) [0, 1, 4, 5, 11, 12, 13] rfl ⟨(hS442.subR [0, 1]).sub [2, 0, 1] (by decide), hx522⟩ ?_
  rintro k523 ⟨a516, a517, x518⟩ w524 ⟨hS525, hl526⟩
  cases k523 with
  | zero => rw [rows_rowOf.l0] at hl526; cases hl526
  | succ k523 =>
   rw [rows_rowOf.l0] at hl526
   refine WC.seq ?_
   refine WC.region ?_
   refine seg 1 [] [0, 1, 4, 5, 11, 12, 13, 14] [(0, (.slice A_p0 p0.length c_p0)), (1, (.slice A_p1 p1.length c_p1)), (4, (pt g427)), (5, (pt g437)), (11, (.slice A_p1 p1.length c_p1)), (12, (iv (p1.length : Int))), (13, (iv x518)), (14, (.bool (decide (x518 < (p1.length : Int)))))] [] (fun fb => by kernel_rfl) rfl trivial ?_
   refine WL.done rfl ?_
   refine WX.next ?_
   refine WC.seq ?_
   rcases br_some hl526 with ⟨h527, hl526⟩ | ⟨h527, hl526⟩
   ·refine WC.condT2 (fun fb => by kernel_rfl) h527 ?_
    refine WC.skip ?_
    refine WX.next ?_
    refine WC.seq ?_
    refine WC.block ?_
    refine WC.seq ?_
    refine WC.region ?_
    refine seg 1 [] [0, 1, 4, 5, 11, 12, 13, 15] [(0, (.slice A_p0 p0.length c_p0)), (1, (.slice A_p1 p1.length c_p1)), (4, (pt g427)), (5, (pt g437)), (11, (.slice A_p1 p1.length c_p1)), (12, (iv (p1.length : Int))), (13, (iv x518)), (15, (iv x518))] [] (fun fb => by kernel_rfl) rfl trivial ?_
    obtain ⟨h528, hl526⟩ := as_some hl526
    refine seg 5 [.v (iv (rdD p1 x518 0))] [0, 1, 4, 5, 6, 7, 11, 12, 13] [(0, (.slice A_p0 p0.length c_p0)), (1, (.slice A_p1 p1.length c_p1)), (4, (pt g427)), (5, (pt g437)), (6, (iv x518)), (7, (iv (rdD p1 x518 0))), (11, (.slice A_p1 p1.length c_p1)), (12, (iv (p1.length : Int))), (13, (iv x518))] [.idx A_p1 x518 p1.length, .cell ((adr A_p1).add ((x518).toNat * 1)) (iv (rdD p1 x518 0))] (fun fb => by kernel_rfl) rfl ⟨rowR.adr (hS525.rd 1).1 h528.1 h528.2, rowR.cell (hS525.rd 1).1 0 h528.1 h528.2 0 rfl, trivial⟩ ?_
    refine WL.done rfl ?_
    refine WX.next ?_
    obtain ⟨h543, hl526⟩ := as_some hl526
    obtain ⟨h544, hl526⟩ := as_some hl526
    refine WC.regionD ([(6, (((adr A_p0).add (((rdD p1 x518 0)).toNat * 4)).add 2), (iv ((rdD p0 (rdD p1 x518 0) z_Tile).S))), (11, ((adr A_p0).add (((rdD p1 x518 0)).toNat * 4)), (iv ((rdD p0 (rdD p1 x518 0) z_Tile).N)))], [0, 1, 2, 3, 4, 5, 6, 7, 8, 9, 10, 11, 12, 13, 15, 16], [[], [], [], [], [2, 3], [2, 3, 4], [2, 3, 4, 5], [], [], [7, 8], [7, 8, 9], [7, 8, 9, 10], [], [0, 2, 3, 4, 5, 6, 12], [0, 2, 3, 4, 5, 6, 12, 13], [], [0, 1, 2, 3, 4, 5, 6, 7, 8, 9, 10, 11, 12, 13, 14, 15], [0, 1, 2, 3, 4, 5, 6, 7, 8, 9, 10, 11, 12, 13, 14, 15, 16]]) [[0, 1, 2, 3, 4, 5, 6, 7, 8, 9, 10, 11, 12, 13, 15, 14, 16, 17]] (by kernel_rfl) (by kernel_rfl) (NoPanic.block (NoPanic.seq (NoPanic.seq (NoPanic.block (NoPanic.seq (NoPanic.body)))))) ?_
    have hS540 := hS525.drew
    revert hS540
    generalize World.drew w524 = w539
    intro hS540
    refine ⟨⟨rowR.cell (hS540.rd 0).1 z_Tile h543.1 h543.2 2 rfl, rowR.cell (hS540.rd 0).1 z_Tile h543.1 h543.2 0 rfl, trivial⟩, forallC ?_ (forallN)⟩
    refine segF 15 [.v (iv ((rdD p0 (rdD p1 x518 0) z_Tile).S)), .v (iv ((rdD p0 (rdD p1 x518 0) z_Tile).N))] [0, 1, 4, 5, 11, 12, 13, 19, 24, 29, 31, 32] [(0, (.slice A_p0 p0.length c_p0)), (1, (.slice A_p1 p1.length c_p1)), (4, (pt g427)), (5, (pt g437)), (11, (.slice A_p1 p1.length c_p1)), (12, (iv (p1.length : Int))), (13, (iv x518)), (19, (iv x518)), (24, (iv ((rdD p0 (rdD p1 x518 0) z_Tile).S))), (29, (iv ((rdD p0 (rdD p1 x518 0) z_Tile).N))), (31, (.pointer (some (flatA ⟨g437, 1, none⟩ (x518.toNat * 1))))), (32, (.pointer (some ⟨g437, 9, none⟩)))] [.idx A_p0 (rdD p1 x518 0) p0.length, .idx A_p0 (rdD p1 x518 0) p0.length, .idx (some ⟨0, 0, none⟩) x518 8] [0, 1] [(6, (((adr A_p0).add (((rdD p1 x518 0)).toNat * 4)).add 2), (iv ((rdD p0 (rdD p1 x518 0) z_Tile).S))), (11, ((adr A_p0).add (((rdD p1 x518 0)).toNat * 4)), (iv ((rdD p0 (rdD p1 x518 0) z_Tile).N)))] (fun fb => by kernel_rfl) rfl ⟨rowR.adr (hS540.rd 0).1 h543.1 h543.2, rowR.adr (hS540.rd 0).1 h543.1 h543.2, ⟨h544.1, h544.2, rfl⟩, trivial⟩ rfl ?_
    have h547 := (cases8 (Q := fun z_ => (([(1 + z_.toNat * 1, (iv ((rdD p0 (rdD p1 x518 0) z_Tile).S)))] : List (Nat × Value)).all fun p_ => Nat.blt p_.1 (#[(.slice A433 (([] : List Int) ++ p1).length c434), (iv a516.e0), (iv a516.e1), (iv a516.e2), (iv a516.e3), (iv a516.e4), (iv a516.e5), (iv a516.e6), (iv a516.e7), (iv a517.e0), (iv a517.e1), (iv a517.e2), (iv a517.e3), (iv a517.e4), (iv a517.e5), (iv a517.e6), (iv a517.e7), (iv 0), (iv 0)] : Array Value).size) = true) h544 (by kernel_rfl) (by kernel_rfl) (by kernel_rfl) (by kernel_rfl) (by kernel_rfl) (by kernel_rfl) (by kernel_rfl) (by kernel_rfl))
    have h548 := (cases8 (Q := fun z_ => wrc (#[(.slice A433 (([] : List Int) ++ p1).length c434), (iv a516.e0), (iv a516.e1), (iv a516.e2), (iv a516.e3), (iv a516.e4), (iv a516.e5), (iv a516.e6), (iv a516.e7), (iv a517.e0), (iv a517.e1), (iv a517.e2), (iv a517.e3), (iv a517.e4), (iv a517.e5), (iv a517.e6), (iv a517.e7), (iv 0), (iv 0)] : Array Value) [(1 + z_.toNat * 1, (iv ((rdD p0 (rdD p1 x518 0) z_Tile).S)))] = (#[(.slice A433 (([] : List Int) ++ p1).length c434), (iv ((A8_Int.set a516 z_ ((rdD p0 (rdD p1 x518 0) z_Tile).S)).e0)), (iv ((A8_Int.set a516 z_ ((rdD p0 (rdD p1 x518 0) z_Tile).S)).e1)), (iv ((A8_Int.set a516 z_ ((rdD p0 (rdD p1 x518 0) z_Tile).S)).e2)), (iv ((A8_Int.set a516 z_ ((rdD p0 (rdD p1 x518 0) z_Tile).S)).e3)), (iv ((A8_Int.set a516 z_ ((rdD p0 (rdD p1 x518 0) z_Tile).S)).e4)), (iv ((A8_Int.set a516 z_ ((rdD p0 (rdD p1 x518 0) z_Tile).S)).e5)), (iv ((A8_Int.set a516 z_ ((rdD p0 (rdD p1 x518 0) z_Tile).S)).e6)), (iv ((A8_Int.set a516 z_ ((rdD p0 (rdD p1 x518 0) z_Tile).S)).e7)), (iv a517.e0), (iv a517.e1), (iv a517.e2), (iv a517.e3), (iv a517.e4), (iv a517.e5), (iv a517.e6), (iv a517.e7), (iv 0), (iv 0)] : Array Value)) h544 (by kernel_rfl) (by kernel_rfl) (by kernel_rfl) (by kernel_rfl) (by kernel_rfl) (by kernel_rfl) (by kernel_rfl) (by kernel_rfl))
    refine WL.store hS540 1 rfl [(1 + x518.toNat * 1, (iv ((rdD p0 (rdD p1 x518 0) z_Tile).S)))] #[(.slice A433 (([] : List Int) ++ p1).length c434), (iv ((A8_Int.set a516 x518 ((rdD p0 (rdD p1 x518 0) z_Tile).S)).e0)), (iv ((A8_Int.set a516 x518 ((rdD p0 (rdD p1 x518 0) z_Tile).S)).e1)), (iv ((A8_Int.set a516 x518 ((rdD p0 (rdD p1 x518 0) z_Tile).S)).e2)), (iv ((A8_Int.set a516 x518 ((rdD p0 (rdD p1 x518 0) z_Tile).S)).e3)), (iv ((A8_Int.set a516 x518 ((rdD p0 (rdD p1 x518 0) z_Tile).S)).e4)), (iv ((A8_Int.set a516 x518 ((rdD p0 (rdD p1 x518 0) z_Tile).S)).e5)), (iv ((A8_Int.set a516 x518 ((rdD p0 (rdD p1 x518 0) z_Tile).S)).e6)), (iv ((A8_Int.set a516 x518 ((rdD p0 (rdD p1 x518 0) z_Tile).S)).e7)), (iv a517.e0), (iv a517.e1), (iv a517.e2), (iv a517.e3), (iv a517.e4), (iv a517.e5), (iv a517.e6), (iv a517.e7), (iv 0), (iv 0)] (fun fb => by kernel_rfl) h547 h548 [0, 2] (by decide) (by decide) (fun w545 hS546 => ?_)
    refine ⟨⟨rowR.cell (hS546.rd 0).1 z_Tile h543.1 h543.2 0 rfl, trivial⟩, ?_⟩
    refine seg 17 [] [0, 1, 4, 5, 11, 12, 13, 29, 33] [(0, (.slice A_p0 p0.length c_p0)), (1, (.slice A_p1 p1.length c_p1)), (4, (pt g427)), (5, (pt g437)), (11, (.slice A_p1 p1.length c_p1)), (12, (iv (p1.length : Int))), (13, (iv x518)), (29, (iv ((rdD p0 (rdD p1 x518 0) z_Tile).N))), (33, (.pointer (some (flatA ⟨g437, 9, none⟩ (x518.toNat * 1)))))] [.idx (some ⟨0, 0, none⟩) x518 8] (fun fb => by kernel_rfl) rfl ⟨⟨h544.1, h544.2, rfl⟩, trivial⟩ ?_
    have h551 := (cases8 (Q := fun z_ => (([(9 + z_.toNat * 1, (iv ((rdD p0 (rdD p1 x518 0) z_Tile).N)))] : List (Nat × Value)).all fun p_ => Nat.blt p_.1 (#[(.slice A433 (([] : List Int) ++ p1).length c434), (iv ((A8_Int.set a516 x518 ((rdD p0 (rdD p1 x518 0) z_Tile).S)).e0)), (iv ((A8_Int.set a516 x518 ((rdD p0 (rdD p1 x518 0) z_Tile).S)).e1)), (iv ((A8_Int.set a516 x518 ((rdD p0 (rdD p1 x518 0) z_Tile).S)).e2)), (iv ((A8_Int.set a516 x518 ((rdD p0 (rdD p1 x518 0) z_Tile).S)).e3)), (iv ((A8_Int.set a516 x518 ((rdD p0 (rdD p1 x518 0) z_Tile).S)).e4)), (iv ((A8_Int.set a516 x518 ((rdD p0 (rdD p1 x518 0) z_Tile).S)).e5)), (iv ((A8_Int.set a516 x518 ((rdD p0 (rdD p1 x518 0) z_Tile).S)).e6)), (iv ((A8_Int.set a516 x518 ((rdD p0 (rdD p1 x518 0) z_Tile).S)).e7)), (iv a517.e0), (iv a517.e1), (iv a517.e2), (iv a517.e3), (iv a517.e4), (iv a517.e5), (iv a517.e6), (iv a517.e7), (iv 0), (iv 0)] : Array Value).size) = true) h544 (by kernel_rfl) (by kernel_rfl) (by kernel_rfl) (by kernel_rfl) (by kernel_rfl) (by kernel_rfl) (by kernel_rfl) (by kernel_rfl))
    have h552 := (cases8 (Q := fun z_ => wrc (#[(.slice A433 (([] : List Int) ++ p1).length c434), (iv ((A8_Int.set a516 x518 ((rdD p0 (rdD p1 x518 0) z_Tile).S)).e0)), (iv ((A8_Int.set a516 x518 ((rdD p0 (rdD p1 x518 0) z_Tile).S)).e1)), (iv ((A8_Int.set a516 x518 ((rdD p0 (rdD p1 x518 0) z_Tile).S)).e2)), (iv ((A8_Int.set a516 x518 ((rdD p0 (rdD p1 x518 0) z_Tile).S)).e3)), (iv ((A8_Int.set a516 x518 ((rdD p0 (rdD p1 x518 0) z_Tile).S)).e4)), (iv ((A8_Int.set a516 x518 ((rdD p0 (rdD p1 x518 0) z_Tile).S)).e5)), (iv ((A8_Int.set a516 x518 ((rdD p0 (rdD p1 x518 0) z_Tile).S)).e6)), (iv ((A8_Int.set a516 x518 ((rdD p0 (rdD p1 x518 0) z_Tile).S)).e7)), (iv a517.e0), (iv a517.e1), (iv a517.e2), (iv a517.e3), (iv a517.e4), (iv a517.e5), (iv a517.e6), (iv a517.e7), (iv 0), (iv 0)] : Array Value) [(9 + z_.toNat * 1, (iv ((rdD p0 (rdD p1 x518 0) z_Tile).N)))] = (#[(.slice A433 (([] : List Int) ++ p1).length c434), (iv ((A8_Int.set a516 x518 ((rdD p0 (rdD p1 x518 0) z_Tile).S)).e0)), (iv ((A8_Int.set a516 x518 ((rdD p0 (rdD p1 x518 0) z_Tile).S)).e1)), (iv ((A8_Int.set a516 x518 ((rdD p0 (rdD p1 x518 0) z_Tile).S)).e2)), (iv ((A8_Int.set a516 x518 ((rdD p0 (rdD p1 x518 0) z_Tile).S)).e3)), (iv ((A8_Int.set a516 x518 ((rdD p0 (rdD p1 x518 0) z_Tile).S)).e4)), (iv ((A8_Int.set a516 x518 ((rdD p0 (rdD p1 x518 0) z_Tile).S)).e5)), (iv ((A8_Int.set a516 x518 ((rdD p0 (rdD p1 x518 0) z_Tile).S)).e6)), (iv ((A8_Int.set a516 x518 ((rdD p0 (rdD p1 x518 0) z_Tile).S)).e7)), (iv ((A8_Int.set a517 z_ ((rdD p0 (rdD p1 x518 0) z_Tile).N)).e0)), (iv ((A8_Int.set a517 z_ ((rdD p0 (rdD p1 x518 0) z_Tile).N)).e1)), (iv ((A8_Int.set a517 z_ ((rdD p0 (rdD p1 x518 0) z_Tile).N)).e2)), (iv ((A8_Int.set a517 z_ ((rdD p0 (rdD p1 x518 0) z_Tile).N)).e3)), (iv ((A8_Int.set a517 z_ ((rdD p0 (rdD p1 x518 0) z_Tile).N)).e4)), (iv ((A8_Int.set a517 z_ ((rdD p0 (rdD p1 x518 0) z_Tile).N)).e5)), (iv ((A8_Int.set a517 z_ ((rdD p0 (rdD p1 x518 0) z_Tile).N)).e6)), (iv ((A8_Int.set a517 z_ ((rdD p0 (rdD p1 x518 0) z_Tile).N)).e7)), (iv 0), (iv 0)] : Array Value)) h544 (by kernel_rfl) (by kernel_rfl) (by kernel_rfl) (by kernel_rfl) (by kernel_rfl) (by kernel_rfl) (by kernel_rfl) (by kernel_rfl))
    refine WL.store hS546 0 rfl [(9 + x518.toNat * 1, (iv ((rdD p0 (rdD p1 x518 0) z_Tile).N)))] #[(.slice A433 (([] : List Int) ++ p1).length c434), (iv ((A8_Int.set a516 x518 ((rdD p0 (rdD p1 x518 0) z_Tile).S)).e0)), (iv ((A8_Int.set a516 x518 ((rdD p0 (rdD p1 x518 0) z_Tile).S)).e1)), (iv ((A8_Int.set a516 x518 ((rdD p0 (rdD p1 x518 0) z_Tile).S)).e2)), (iv ((A8_Int.set a516 x518 ((rdD p0 (rdD p1 x518 0) z_Tile).S)).e3)), (iv ((A8_Int.set a516 x518 ((rdD p0 (rdD p1 x518 0) z_Tile).S)).e4)), (iv ((A8_Int.set a516 x518 ((rdD p0 (rdD p1 x518 0) z_Tile).S)).e5)), (iv ((A8_Int.set a516 x518 ((rdD p0 (rdD p1 x518 0) z_Tile).S)).e6)), (iv ((A8_Int.set a516 x518 ((rdD p0 (rdD p1 x518 0) z_Tile).S)).e7)), (iv ((A8_Int.set a517 x518 ((rdD p0 (rdD p1 x518 0) z_Tile).N)).e0)), (iv ((A8_Int.set a517 x518 ((rdD p0 (rdD p1 x518 0) z_Tile).N)).e1)), (iv ((A8_Int.set a517 x518 ((rdD p0 (rdD p1 x518 0) z_Tile).N)).e2)), (iv ((A8_Int.set a517 x518 ((rdD p0 (rdD p1 x518 0) z_Tile).N)).e3)), (iv ((A8_Int.set a517 x518 ((rdD p0 (rdD p1 x518 0) z_Tile).N)).e4)), (iv ((A8_Int.set a517 x518 ((rdD p0 (rdD p1 x518 0) z_Tile).N)).e5)), (iv ((A8_Int.set a517 x518 ((rdD p0 (rdD p1 x518 0) z_Tile).N)).e6)), (iv ((A8_Int.set a517 x518 ((rdD p0 (rdD p1 x518 0) z_Tile).N)).e7)), (iv 0), (iv 0)] (fun fb => by kernel_rfl) h551 h552 [1, 2] (by decide) (by decide) (fun w549 hS550 => ?_)
    refine ⟨trivial, ?_⟩
    refine WL.done rfl ?_
    refine WX.blockN (WX.next ?_)
    refine WC.region ?_
    refine seg 2 [] [0, 1, 4, 5, 11, 12, 13] [(0, (.slice A_p0 p0.length c_p0)), (1, (.slice A_p1 p1.length c_p1)), (4, (pt g427)), (5, (pt g437)), (11, (.slice A_p1 p1.length c_p1)), (12, (iv (p1.length : Int))), (13, (iv (w64 (x518 + 1))))] [] (fun fb => by kernel_rfl) rfl trivial ?_
    refine WL.done rfl ?_
    exact WX.again k523 (Nat.lt_succ_self _) ((A8_Int.set a516 x518 ((rdD p0 (rdD p1 x518 0) z_Tile).S)), (A8_Int.set a517 x518 ((rdD p0 (rdD p1 x518 0) z_Tile).N)), w64 (x518 + 1)) [0, 1, 4, 5, 11, 12, 13] rfl ⟨(hS550.subR [0, 1]).sub [1, 0, 2] (by decide), hl526⟩
   refine WC.condF2 (fun fb => by kernel_rfl) h527 ?_
   refine WC.exit ?_
   injection hl526 with hl526
   exact WX.thenX (WX.thenX (WX.blockHere (WX.to Kx521 (a516, a517) [0, 1, 4, 5] rfl ⟨(hS525.subR [0, 1]).sub [0, 1, 2] (by decide), hl526.symm⟩)))
 rintro y556 w553 ⟨hS554, hq555⟩
 subst hq555
 refine WX.next ?_
 refine WC.seq ?_
 obtain ⟨h571, hf⟩ := as_some hf
 obtain ⟨h572, hf⟩ := as_some hf
 obtain ⟨h573, hf⟩ := as_some hf
 obtain ⟨h574, hf⟩ := as_some hf
 refine WC.regionD ([(3, ((adr A_p1).add (((0 : Int)).toNat * 1)), (iv (rdD p1 (0 : Int) 0))), (6, (((adr A_p0).add (((rdD p1 (0 : Int) 0)).toNat * 4)).add 3), (iv ((rdD p0 (rdD p1 (0 : Int) 0) z_Tile).W))), (13, ((adr A_p1).add ((w64 ((p1.length : Int) - 1)).toNat * 1)), (iv (rdD p1 (w64 ((p1.length : Int) - 1)) 0))), (16, (((adr A_p0).add (((rdD p1 (w64 ((p1.length : Int) - 1)) 0)).toNat * 4)).add 1), (iv ((rdD p0 (rdD p1 (w64 ((p1.length : Int) - 1)) 0) z_Tile).E)))], [0, 1, 2, 3, 4, 5, 6, 7, 8, 9, 10, 11, 12, 13, 14, 15, 16, 17, 19], [[], [], [1], [1, 2], [0, 1, 2, 3], [0, 1, 2, 3, 4], [0, 1, 2, 3, 4, 5], [], [], [], [9], [9, 10], [8, 9, 10, 11], [8, 9, 10, 11, 12], [7, 8, 9, 10, 11, 12, 13], [7, 8, 9, 10, 11, 12, 13, 14], [7, 8, 9, 10, 11, 12, 13, 14, 15], [0, 1, 2, 3, 4, 5, 6], [0, 1, 2, 3, 4, 5, 6, 17], [0, 1, 2, 3, 4, 5, 6, 7, 8, 9, 10, 11, 12, 13, 14, 15, 16, 17, 18], [0, 1, 2, 3, 4, 5, 6, 7, 8, 9, 10, 11, 12, 13, 14, 15, 16, 17, 18, 19]]) [[0, 1, 2, 3, 4, 5, 6, 7, 8, 9, 10, 11, 12, 13, 14, 15, 16, 17, 18, 19, 20]] (by kernel_rfl) (by kernel_rfl) (NoPanic.seq (NoPanic.body)) ?_
 have hS566 := hS554.drew
 revert hS566
 generalize World.drew w553 = w565
 intro hS566
 refine ⟨⟨rowR.cell (hS566.rd 1).1 0 h571.1 h571.2 0 rfl, rowR.cell (hS566.rd 0).1 z_Tile h572.1 h572.2 3 rfl, rowR.cell (hS566.rd 1).1 0 h573.1 h573.2 0 rfl, rowR.cell (hS566.rd 0).1 z_Tile h574.1 h574.2 1 rfl, trivial⟩, forallC ?_ (forallN)⟩
 refine segF 18 [.v (iv (rdD p1 (0 : Int) 0)), .v (iv ((rdD p0 (rdD p1 (0 : Int) 0) z_Tile).W)), .v (iv (rdD p1 (w64 ((p1.length : Int) - 1)) 0)), .v (iv ((rdD p0 (rdD p1 (w64 ((p1.length : Int) - 1)) 0) z_Tile).E))] [4, 5, 41, 51, 52] [(4, (pt g427)), (5, (pt g437)), (41, (iv ((rdD p0 (rdD p1 (0 : Int) 0) z_Tile).W))), (51, (iv ((rdD p0 (rdD p1 (w64 ((p1.length : Int) - 1)) 0) z_Tile).E))), (52, (.pointer (some ⟨g437, 17, none⟩)))] [.idx A_p1 (0 : Int) p1.length, .idx A_p0 (rdD p1 (0 : Int) 0) p0.length, .idx A_p1 (w64 ((p1.length : Int) - 1)) p1.length, .idx A_p0 (rdD p1 (w64 ((p1.length : Int) - 1)) 0) p0.length] [0, 1, 2, 3] [(3, ((adr A_p1).add (((0 : Int)).toNat * 1)), (iv (rdD p1 (0 : Int) 0))), (6, (((adr A_p0).add (((rdD p1 (0 : Int) 0)).toNat * 4)).add 3), (iv ((rdD p0 (rdD p1 (0 : Int) 0) z_Tile).W))), (13, ((adr A_p1).add ((w64 ((p1.length : Int) - 1)).toNat * 1)), (iv (rdD p1 (w64 ((p1.length : Int) - 1)) 0))), (16, (((adr A_p0).add (((rdD p1 (w64 ((p1.length : Int) - 1)) 0)).toNat * 4)).add 1), (iv ((rdD p0 (rdD p1 (w64 ((p1.length : Int) - 1)) 0) z_Tile).E)))] (fun fb => by kernel_rfl) rfl ⟨rowR.adr (hS566.rd 1).1 h571.1 h571.2, rowR.adr (hS566.rd 0).1 h572.1 h572.2, rowR.adr (hS566.rd 1).1 h573.1 h573.2, rowR.adr (hS566.rd 0).1 h574.1 h574.2, trivial⟩ rfl ?_
 refine WL.store hS566 1 rfl [(17, (iv ((rdD p0 (rdD p1 (0 : Int) 0) z_Tile).W)))] #[(.slice A433 (([] : List Int) ++ p1).length c434), (iv x521.1.e0), (iv x521.1.e1), (iv x521.1.e2), (iv x521.1.e3), (iv x521.1.e4), (iv x521.1.e5), (iv x521.1.e6), (iv x521.1.e7), (iv x521.2.e0), (iv x521.2.e1), (iv x521.2.e2), (iv x521.2.e3), (iv x521.2.e4), (iv x521.2.e5), (iv x521.2.e6), (iv x521.2.e7), (iv ((rdD p0 (rdD p1 (0 : Int) 0) z_Tile).W)), (iv 0)] (fun fb => by kernel_rfl) (by kernel_rfl) (by kernel_rfl) [0, 2] (by decide) (by decide) (fun w575 hS576 => ?_)
 refine ⟨⟨rowR.cell (hS576.rd 1).1 0 h573.1 h573.2 0 rfl, rowR.cell (hS576.rd 0).1 z_Tile h574.1 h574.2 1 rfl, trivial⟩, ?_⟩
 refine seg 20 [] [4, 5, 51, 53] [(4, (pt g427)), (5, (pt g437)), (51, (iv ((rdD p0 (rdD p1 (w64 ((p1.length : Int) - 1)) 0) z_Tile).E))), (53, (.pointer (some ⟨g437, 18, none⟩)))] [] (fun fb => by kernel_rfl) rfl trivial ?_
 refine WL.store hS576 0 rfl [(18, (iv ((rdD p0 (rdD p1 (w64 ((p1.length : Int) - 1)) 0) z_Tile).E)))] #[(.slice A433 (([] : List Int) ++ p1).length c434), (iv x521.1.e0), (iv x521.1.e1), (iv x521.1.e2), (iv x521.1.e3), (iv x521.1.e4), (iv x521.1.e5), (iv x521.1.e6), (iv x521.1.e7), (iv x521.2.e0), (iv x521.2.e1), (iv x521.2.e2), (iv x521.2.e3), (iv x521.2.e4), (iv x521.2.e5), (iv x521.2.e6), (iv x521.2.e7), (iv ((rdD p0 (rdD p1 (0 : Int) 0) z_Tile).W)), (iv ((rdD p0 (rdD p1 (w64 ((p1.length : Int) - 1)) 0) z_Tile).E))] (fun fb => by kernel_rfl) (by kernel_rfl) (by kernel_rfl) [1, 2] (by decide) (by decide) (fun w577 hS578 => ?_)
 refine ⟨trivial, ?_⟩
 refine WL.done rfl ?_
 refine WX.next ?_
 refine WC.seq ?_
 refine WC.region ?_
 refine seg 1 [.v (.slice A433 (([] : List Int) ++ p1).length c434), .v (iv x521.1.e0), .v (iv x521.1.e1), .v (iv x521.1.e2), .v (iv x521.1.e3), .v (iv x521.1.e4), .v (iv x521.1.e5), .v (iv x521.1.e6), .v (iv x521.1.e7), .v (iv x521.2.e0), .v (iv x521.2.e1), .v (iv x521.2.e2), .v (iv x521.2.e3), .v (iv x521.2.e4), .v (iv x521.2.e5), .v (iv x521.2.e6), .v (iv x521.2.e7), .v (iv ((rdD p0 (rdD p1 (0 : Int) 0) z_Tile).W)), .v (iv ((rdD p0 (rdD p1 (w64 ((p1.length : Int) - 1)) 0) z_Tile).E))] [4, 54] [(4, (pt g427)), (54, (.agg #[(.slice A433 (([] : List Int) ++ p1).length c434), (iv x521.1.e0), (iv x521.1.e1), (iv x521.1.e2), (iv x521.1.e3), (iv x521.1.e4), (iv x521.1.e5), (iv x521.1.e6), (iv x521.1.e7), (iv x521.2.e0), (iv x521.2.e1), (iv x521.2.e2), (iv x521.2.e3), (iv x521.2.e4), (iv x521.2.e5), (iv x521.2.e6), (iv x521.2.e7), (iv ((rdD p0 (rdD p1 (0 : Int) 0) z_Tile).W)), (iv ((rdD p0 (rdD p1 (w64 ((p1.length : Int) - 1)) 0) z_Tile).E))]))] [.cell ⟨g437, 0, none⟩ (.slice A433 (([] : List Int) ++ p1).length c434), .cell ⟨g437, 1, none⟩ (iv x521.1.e0), .cell ⟨g437, 2, none⟩ (iv x521.1.e1), .cell ⟨g437, 3, none⟩ (iv x521.1.e2), .cell ⟨g437, 4, none⟩ (iv x521.1.e3), .cell ⟨g437, 5, none⟩ (iv x521.1.e4), .cell ⟨g437, 6, none⟩ (iv x521.1.e5), .cell ⟨g437, 7, none⟩ (iv x521.1.e6), .cell ⟨g437, 8, none⟩ (iv x521.1.e7), .cell ⟨g437, 9, none⟩ (iv x521.2.e0), .cell ⟨g437, 10, none⟩ (iv x521.2.e1), .cell ⟨g437, 11, none⟩ (iv x521.2.e2), .cell ⟨g437, 12, none⟩ (iv x521.2.e3), .cell ⟨g437, 13, none⟩ (iv x521.2.e4), .cell ⟨g437, 14, none⟩ (iv x521.2.e5), .cell ⟨g437, 15, none⟩ (iv x521.2.e6), .cell ⟨g437, 16, none⟩ (iv x521.2.e7), .cell ⟨g437, 17, none⟩ (iv ((rdD p0 (rdD p1 (0 : Int) 0) z_Tile).W)), .cell ⟨g437, 18, none⟩ (iv ((rdD p0 (rdD p1 (w64 ((p1.length : Int) - 1)) 0) z_Tile).E))] (fun fb => by kernel_rfl) rfl ⟨hS578.cell 0 rfl 0 rfl, hS578.cell 0 rfl 1 rfl, hS578.cell 0 rfl 2 rfl, hS578.cell 0 rfl 3 rfl, hS578.cell 0 rfl 4 rfl, hS578.cell 0 rfl 5 rfl, hS578.cell 0 rfl 6 rfl, hS578.cell 0 rfl 7 rfl, hS578.cell 0 rfl 8 rfl, hS578.cell 0 rfl 9 rfl, hS578.cell 0 rfl 10 rfl, hS578.cell 0 rfl 11 rfl, hS578.cell 0 rfl 12 rfl, hS578.cell 0 rfl 13 rfl, hS578.cell 0 rfl 14 rfl, hS578.cell 0 rfl 15 rfl, hS578.cell 0 rfl 16 rfl, hS578.cell 0 rfl 17 rfl, hS578.cell 0 rfl 18 rfl, trivial⟩ ?_
 refine WL.store hS578 1 rfl [(0, (.slice A433 (([] : List Int) ++ p1).length c434)), (1, (iv x521.1.e0)), (2, (iv x521.1.e1)), (3, (iv x521.1.e2)), (4, (iv x521.1.e3)), (5, (iv x521.1.e4)), (6, (iv x521.1.e5)), (7, (iv x521.1.e6)), (8, (iv x521.1.e7)), (9, (iv x521.2.e0)), (10, (iv x521.2.e1)), (11, (iv x521.2.e2)), (12, (iv x521.2.e3)), (13, (iv x521.2.e4)), (14, (iv x521.2.e5)), (15, (iv x521.2.e6)), (16, (iv x521.2.e7)), (17, (iv ((rdD p0 (rdD p1 (0 : Int) 0) z_Tile).W))), (18, (iv ((rdD p0 (rdD p1 (w64 ((p1.length : Int) - 1)) 0) z_Tile).E)))] #[(.slice A433 (([] : List Int) ++ p1).length c434), (iv x521.1.e0), (iv x521.1.e1), (iv x521.1.e2), (iv x521.1.e3), (iv x521.1.e4), (iv x521.1.e5), (iv x521.1.e6), (iv x521.1.e7), (iv x521.2.e0), (iv x521.2.e1), (iv x521.2.e2), (iv x521.2.e3), (iv x521.2.e4), (iv x521.2.e5), (iv x521.2.e6), (iv x521.2.e7), (iv ((rdD p0 (rdD p1 (0 : Int) 0) z_Tile).W)), (iv ((rdD p0 (rdD p1 (w64 ((p1.length : Int) - 1)) 0) z_Tile).E))] (fun fb => by kernel_rfl) (by kernel_rfl) (by kernel_rfl) [0, 2] (by decide) (by decide) (fun w579 hS580 => ?_)
 refine ⟨trivial, ?_⟩
 refine WL.done rfl ?_
 refine WX.next ?_
 refine WC.ret ?_
 injection hf with hf
 subst hf
 exact WX.ret_ [.v (.slice A433 (([] : List Int) ++ p1).length c434), .v (iv x521.1.e0), .v (iv x521.1.e1), .v (iv x521.1.e2), .v (iv x521.1.e3), .v (iv x521.1.e4), .v (iv x521.1.e5), .v (iv x521.1.e6), .v (iv x521.1.e7), .v (iv x521.2.e0), .v (iv x521.2.e1), .v (iv x521.2.e2), .v (iv x521.2.e3), .v (iv x521.2.e4), .v (iv x521.2.e5), .v (iv x521.2.e6), .v (iv x521.2.e7), .v (iv ((rdD p0 (rdD p1 (0 : Int) 0) z_Tile).W)), .v (iv ((rdD p0 (rdD p1 (w64 ((p1.length : Int) - 1)) 0) z_Tile).E))] (.agg #[(.slice A433 (([] : List Int) ++ p1).length c434), (iv x521.1.e0), (iv x521.1.e1), (iv x521.1.e2), (iv x521.1.e3), (iv x521.1.e4), (iv x521.1.e5), (iv x521.1.e6), (iv x521.1.e7), (iv x521.2.e0), (iv x521.2.e1), (iv x521.2.e2), (iv x521.2.e3), (iv x521.2.e4), (iv x521.2.e5), (iv x521.2.e6), (iv x521.2.e7), (iv ((rdD p0 (rdD p1 (0 : Int) 0) z_Tile).W)), (iv ((rdD p0 (rdD p1 (w64 ((p1.length : Int) - 1)) 0) z_Tile).E))]) [.cell ⟨g427, 0, none⟩ (.slice A433 (([] : List Int) ++ p1).length c434), .cell ⟨g427, 1, none⟩ (iv x521.1.e0), .cell ⟨g427, 2, none⟩ (iv x521.1.e1), .cell ⟨g427, 3, none⟩ (iv x521.1.e2), .cell ⟨g427, 4, none⟩ (iv x521.1.e3), .cell ⟨g427, 5, none⟩ (iv x521.1.e4), .cell ⟨g427, 6, none⟩ (iv x521.1.e5), .cell ⟨g427, 7, none⟩ (iv x521.1.e6), .cell ⟨g427, 8, none⟩ (iv x521.1.e7), .cell ⟨g427, 9, none⟩ (iv x521.2.e0), .cell ⟨g427, 10, none⟩ (iv x521.2.e1), .cell ⟨g427, 11, none⟩ (iv x521.2.e2), .cell ⟨g427, 12, none⟩ (iv x521.2.e3), .cell ⟨g427, 13, none⟩ (iv x521.2.e4), .cell ⟨g427, 14, none⟩ (iv x521.2.e5), .cell ⟨g427, 15, none⟩ (iv x521.2.e6), .cell ⟨g427, 16, none⟩ (iv x521.2.e7), .cell ⟨g427, 17, none⟩ (iv ((rdD p0 (rdD p1 (0 : Int) 0) z_Tile).W)), .cell ⟨g427, 18, none⟩ (iv ((rdD p0 (rdD p1 (w64 ((p1.length : Int) - 1)) 0) z_Tile).E))] (fun fb => by kernel_rfl) ⟨hS580.cell 0 rfl 0 rfl, hS580.cell 0 rfl 1 rfl, hS580.cell 0 rfl 2 rfl, hS580.cell 0 rfl 3 rfl, hS580.cell 0 rfl 4 rfl, hS580.cell 0 rfl 5 rfl, hS580.cell 0 rfl 6 rfl, hS580.cell 0 rfl 7 rfl, hS580.cell 0 rfl 8 rfl, hS580.cell 0 rfl 9 rfl, hS580.cell 0 rfl 10 rfl, hS580.cell 0 rfl 11 rfl, hS580.cell 0 rfl 12 rfl, hS580.cell 0 rfl 13 rfl, hS580.cell 0 rfl 14 rfl, hS580.cell 0 rfl 15 rfl, hS580.cell 0 rfl 16 rfl, hS580.cell 0 rfl 17 rfl, hS580.cell 0 rfl 18 rfl, trivial⟩ ⟨_, rfl, A433, c434, rfl, (hS580.sub [2] (by decide)).noR⟩
theorem rows_All_1_calls : ∀ (k : Nat) (p0 : Int) (f0 : Int) (f1 : List Row) (f2 : List Tile) (f3 : List Int) (g_f0 : Nat) (g_f1 : Nat) (A_f1 : Option Addr) (c_f1 : Nat) (H_f1 : Nat → HF) (g_f2 : Nat) (A_f2 : Option Addr) (c_f2 : Nat) (g_f3 : Nat) (A_f3 : Option Addr) (c_f3 : Nat) (g_f4 : Nat) (r : (List Row) × (List Int)) (w : World) (hR0 : RO (fpL [blk g_f1 (.cells #[(.slice A_f1 f1.length c_f1)] 82 (0, 0)), rowO 88 encN_Row A_f1 c_f1 (tag H_f1 f1), poolO [nestO subN_Row H_f1 f1], blk g_f3 (.cells #[(.slice A_f3 f3.length c_f3)] 36 (0, 0)), rowO 3 encInt A_f3 c_f3 f3]) w (blk g_f0 (.cells #[(iv f0)] 3 (0, 0)))) (hR1 : RO (fpL [blk g_f1 (.cells #[(.slice A_f1 f1.length c_f1)] 82 (0, 0)), rowO 88 encN_Row A_f1 c_f1 (tag H_f1 f1), poolO [nestO subN_Row H_f1 f1], blk g_f3 (.cells #[(.slice A_f3 f3.length c_f3)] 36 (0, 0)), rowO 3 encInt A_f3 c_f3 f3]) w (blk g_f2 (.cells #[(.slice A_f2 f2.length c_f2)] 22 (0, 0)))) (hR2 : RO (fpL [blk g_f1 (.cells #[(.slice A_f1 f1.length c_f1)] 82 (0, 0)), rowO 88 encN_Row A_f1 c_f1 (tag H_f1 f1), poolO [nestO subN_Row H_f1 f1], blk g_f3 (.cells #[(.slice A_f3 f3.length c_f3)] 36 (0, 0)), rowO 3 encInt A_f3 c_f3 f3]) w (rowR enc_Tile A_f2 c_f2 f2)) (hR3 : RO (fpL [blk g_f1 (.cells #[(.slice A_f1 f1.length c_f1)] 82 (0, 0)), rowO 88 encN_Row A_f1 c_f1 (tag H_f1 f1), poolO [nestO subN_Row H_f1 f1], blk g_f3 (.cells #[(.slice A_f3 f3.length c_f3)] 36 (0, 0)), rowO 3 encInt A_f3 c_f3 f3]) w (blk g_f4 (.cells #[(.func (.func 82) #[] #[(.pointer (some ⟨g_f0, 0, none⟩)), (.pointer (some ⟨g_f1, 0, none⟩)), (.pointer (some ⟨g_f2, 0, none⟩)), (.pointer (some ⟨g_f3, 0, none⟩)), (.pointer (some ⟨g_f4, 0, none⟩))])] 115 (0, 0)))) (hI : IoOK w [blk g_f1 (.cells #[(.slice A_f1 f1.length c_f1)] 82 (0, 0)), rowO 88 encN_Row A_f1 c_f1 (tag H_f1 f1), poolO [nestO subN_Row H_f1 f1], blk g_f3 (.cells #[(.slice A_f3 f3.length c_f3)] 36 (0, 0)), rowO 3 encInt A_f3 c_f3 f3]) (hf : rows_All_1 k p0 f0 f1 f2 f3 = some r),
  CallsR Try.prog 82 #[(iv p0), (.pointer (some ⟨g_f0, 0, none⟩)), (.pointer (some ⟨g_f1, 0, none⟩)), (.pointer (some ⟨g_f2, 0, none⟩)), (.pointer (some ⟨g_f3, 0, none⟩)), (.pointer (some ⟨g_f4, 0, none⟩))] w (fun v w' => ∃ (A1_ : Option Addr), ∃ (c1_ : Nat), ∃ (h1_ : Nat → HF), ∃ (A2_ : Option Addr), ∃ (c2_ : Nat), v = (.tuple #[]) ∧ St (fpL [blk g_f1 (.cells #[(.slice A_f1 f1.length c_f1)] 82 (0, 0)), rowO 88 encN_Row A_f1 c_f1 (tag H_f1 f1), poolO [nestO subN_Row H_f1 f1], blk g_f3 (.cells #[(.slice A_f3 f3.length c_f3)] 36 (0, 0)), rowO 3 encInt A_f3 c_f3 f3]) w w' [] [blk g_f1 (.cells #[(.slice A1_ r.1.length c1_)] 82 (0, 0)), rowO 88 encN_Row A1_ c1_ (tag h1_ r.1), poolO [nestO subN_Row h1_ r.1], blk g_f3 (.cells #[(.slice A2_ r.2.length c2_)] 36 (0, 0)), rowO 3 encInt A2_ c2_ r.2]) := by
 intro k
 induction k with
 | zero => intro p0 f0 f1 f2 f3 g_f0 g_f1 A_f1 c_f1 H_f1 g_f2 A_f2 c_f2 g_f3 A_f3 c_f3 g_f4 r w hR0 hR1 hR2 hR3 hI hf; rw [rows_All_1] at hf; cases hf
 | succ k ih_ =>
 intro p0 f0 f1 f2 f3 g_f0 g_f1 A_f1 c_f1 H_f1 g_f2 A_f2 c_f2 g_f3 A_f3 c_f3 g_f4 r w hR0 hR1 hR2 hR3 hI hf
 have hS : St (fpL [blk g_f1 (.cells #[(.slice A_f1 f1.length c_f1)] 82 (0, 0)), rowO 88 encN_Row A_f1 c_f1 (tag H_f1 f1), poolO [nestO subN_Row H_f1 f1], blk g_f3 (.cells #[(.slice A_f3 f3.length c_f3)] 36 (0, 0)), rowO 3 encInt A_f3 c_f3 f3]) w w [blk g_f0 (.cells #[(iv f0)] 3 (0, 0)), blk g_f2 (.cells #[(.slice A_f2 f2.length c_f2)] 22 (0, 0)), rowR enc_Tile A_f2 c_f2 f2, blk g_f4 (.cells #[(.func (.func 82) #[] #[(.pointer (some ⟨g_f0, 0, none⟩)), (.pointer (some ⟨g_f1, 0, none⟩)), (.pointer (some ⟨g_f2, 0, none⟩)), (.pointer (some ⟨g_f3, 0, none⟩)), (.pointer (some ⟨g_f4, 0, none⟩))])] 115 (0, 0))] [blk g_f1 (.cells #[(.slice A_f1 f1.length c_f1)] 82 (0, 0)), rowO 88 encN_Row A_f1 c_f1 (tag H_f1 f1), poolO [nestO subN_Row H_f1 f1], blk g_f3 (.cells #[(.slice A_f3 f3.length c_f3)] 36 (0, 0)), rowO 3 encInt A_f3 c_f3 f3] := St.initIO (ro_cons hR0 (ro_cons hR1 (ro_cons hR2 (ro_cons hR3 (ro_nil _ _))))) hI
 rw [rows_All_1] at hf
 generalize rows_All_1 k = rc_ at hf ih_
 refine enter 50 Try.func82 rfl Try.ntmps82 rfl ?_
 refine WC.seq ?_
 refine WC.seq ?_
 refine WC.region ?_
 refine seg 3 [.v (iv f0)] [0, 2, 3, 4, 5, 11] [(0, (iv p0)), (2, (.pointer (some ⟨g_f1, 0, none⟩))), (3, (.pointer (some ⟨g_f2, 0, none⟩))), (4, (.pointer (some ⟨g_f3, 0, none⟩))), (5, (.pointer (some ⟨g_f4, 0, none⟩))), (11, (.bool (p0 == f0)))] [.cell ⟨g_f0, 0, none⟩ (iv f0)] (fun fb => by kernel_rfl) rfl ⟨blk_cell (hS.rd 0).1 0 rfl, trivial⟩ ?_
 refine WL.done rfl ?_
 refine WX.next ?_
 rcases br_some hf with ⟨h760, hf⟩ | ⟨h760, hf⟩
 ·refine WC.condT2 (fun fb => by kernel_rfl) h760 ?_
  refine WC.seq ?_
  refine WC.regionD ([(0, ⟨g_f1, 0, none⟩, (.slice A_f1 f1.length c_f1)), (1, ⟨g_f2, 0, none⟩, (.slice A_f2 f2.length c_f2)), (2, ⟨g_f3, 0, none⟩, (.slice A_f3 f3.length c_f3))], [0, 1, 2], [[], [], [], [1, 2], [1, 2, 3], [0, 1, 2, 3, 4], [0, 1, 2, 3, 4, 5]]) [[0, 1, 2, 3, 4, 5, 6]] (by kernel_rfl) (by kernel_rfl) (NoPanic.seq (NoPanic.seq (NoPanic.body))) ?_
  have hS782 := hS.drew
  revert hS782
  generalize World.drew w = w781
  intro hS782
  refine ⟨⟨hS782.cell 0 rfl 0 rfl, blk_cell (hS782.rd 1).1 0 rfl, hS782.cell 3 rfl 0 rfl, trivial⟩, forallC ?_ (forallN)⟩
  refine segF 3 [.v (.slice A_f1 f1.length c_f1), .v (.slice A_f2 f2.length c_f2), .v (.slice A_f3 f3.length c_f3)] [2, 4, 12, 13, 14] [(2, (.pointer (some ⟨g_f1, 0, none⟩))), (4, (.pointer (some ⟨g_f3, 0, none⟩))), (12, (.slice A_f1 f1.length c_f1)), (13, (.slice A_f2 f2.length c_f2)), (14, (.slice A_f3 f3.length c_f3))] [] [0, 1, 2] [(0, ⟨g_f1, 0, none⟩, (.slice A_f1 f1.length c_f1)), (1, ⟨g_f2, 0, none⟩, (.slice A_f2 f2.length c_f2)), (2, ⟨g_f3, 0, none⟩, (.slice A_f3 f3.length c_f3))] (fun fb => by kernel_rfl) rfl trivial rfl ?_
  obtain ⟨t783, ht784, hf⟩ := bind_some hf
  refine WL.call (some 15) 83 #[(.slice A_f2 f2.length c_f2), (.slice A_f3 f3.length c_f3)] (fun fb => by kernel_rfl) (rows_rowOf_calls _ f2 f3 A_f2 c_f2 A_f3 c_f3 t783 _ (hS782.rd 2) (hS782.ow 4).ofO ht784) (fun v w785 hR786 => ?_)
  obtain ⟨A788, c789, rfl, hk_⟩ := hR786
  have hS787 : St (fpL [blk g_f1 (.cells #[(.slice A_f1 f1.length c_f1)] 82 (0, 0)), rowO 88 encN_Row A_f1 c_f1 (tag H_f1 f1), poolO [nestO subN_Row H_f1 f1], blk g_f3 (.cells #[(.slice A_f3 f3.length c_f3)] 36 (0, 0)), rowO 3 encInt A_f3 c_f3 f3]) w w785 [blk g_f0 (.cells #[(iv f0)] 3 (0, 0)), blk g_f2 (.cells #[(.slice A_f2 f2.length c_f2)] 22 (0, 0)), rowR enc_Tile A_f2 c_f2 f2, blk g_f4 (.cells #[(.func (.func 82) #[] #[(.pointer (some ⟨g_f0, 0, none⟩)), (.pointer (some ⟨g_f1, 0, none⟩)), (.pointer (some ⟨g_f2, 0, none⟩)), (.pointer (some ⟨g_f3, 0, none⟩)), (.pointer (some ⟨g_f4, 0, none⟩))])] 115 (0, 0))] [rowO 3 encInt A788 c789 t783.Cells, blk g_f1 (.cells #[(.slice A_f1 f1.length c_f1)] 82 (0, 0)), rowO 88 encN_Row A_f1 c_f1 (tag H_f1 f1), poolO [nestO subN_Row H_f1 f1], blk g_f3 (.cells #[(.slice A_f3 f3.length c_f3)] 36 (0, 0)), rowO 3 encInt A_f3 c_f3 f3] := hS782.call hk_ [] [0, 1, 2, 3, 4] (fun g hg => hg.elim) (by simp) (by decide)
  refine ⟨⟨hS787.cell 1 rfl 0 rfl, trivial⟩, ?_⟩
  refine WL.new hS787 16 [] (fun g => (.slice (some ⟨g, 0, none⟩) 1 1)) (.cells #[(.slice A788 t783.Cells.length c789), (iv t783.South.e0), (iv t783.South.e1), (iv t783.South.e2), (iv t783.South.e3), (iv t783.South.e4), (iv t783.South.e5), (iv t783.South.e6), (iv t783.South.e7), (iv t783.North.e0), (iv t783.North.e1), (iv t783.North.e2), (iv t783.North.e3), (iv t783.North.e4), (iv t783.North.e5), (iv t783.North.e6), (iv t783.North.e7), (iv t783.West), (iv t783.East)] 88 (0, 0)) [] (fun fb g => by kernel_rfl) trivial (fun g790 w791 hS792 => ?_)
  refine ⟨⟨hS792.cell 2 rfl 0 rfl, trivial⟩, ?_⟩
  have hS794 : St (fpL [blk g_f1 (.cells #[(.slice A_f1 f1.length c_f1)] 82 (0, 0)), rowO 88 encN_Row A_f1 c_f1 (tag H_f1 f1), poolO [nestO subN_Row H_f1 f1], blk g_f3 (.cells #[(.slice A_f3 f3.length c_f3)] 36 (0, 0)), rowO 3 encInt A_f3 c_f3 f3]) w w791 [blk g_f0 (.cells #[(iv f0)] 3 (0, 0)), blk g_f2 (.cells #[(.slice A_f2 f2.length c_f2)] 22 (0, 0)), rowR enc_Tile A_f2 c_f2 f2, blk g_f4 (.cells #[(.func (.func 82) #[] #[(.pointer (some ⟨g_f0, 0, none⟩)), (.pointer (some ⟨g_f1, 0, none⟩)), (.pointer (some ⟨g_f2, 0, none⟩)), (.pointer (some ⟨g_f3, 0, none⟩)), (.pointer (some ⟨g_f4, 0, none⟩))])] 115 (0, 0))] [rowO 88 encN_Row (some ⟨g790, 0, none⟩) 1 [((hd1 A788 c789), t783)], rowO 3 encInt A788 c789 t783.Cells, blk g_f1 (.cells #[(.slice A_f1 f1.length c_f1)] 82 (0, 0)), rowO 88 encN_Row A_f1 c_f1 (tag H_f1 f1), poolO [nestO subN_Row H_f1 f1], blk g_f3 (.cells #[(.slice A_f3 f3.length c_f3)] 36 (0, 0)), rowO 3 encInt A_f3 c_f3 f3] := hS792.map1 0 _ (fun h => rowO.ofBlk h rfl (Nat.le_of_ble_eq_true (by kernel_rfl))) (fun _ h => by obtain ⟨_, h1, h2⟩ := h; injection h1 with h1; subst h1; exact h2) [1, 2, 3, 4, 5, 6] (by decide) (by decide)
  obtain ⟨h795, hf⟩ := as_some hf
  refine WL.appendN hS794 3 (d := 17) (tS := 82) (z := (.agg #[(.slice none 0 0), (iv 0), (iv 0), (iv 0), (iv 0), (iv 0), (iv 0), (iv 0), (iv 0), (iv 0), (iv 0), (iv 0), (iv 0), (iv 0), (iv 0), (iv 0), (iv 0), (iv 0), (iv 0)])) (bytes := 168) (c2 := 1) (hx := (hd1 A788 c789)) (x := t783) rfl (fun fb => by kernel_rfl) (rowO.rd (hS794.own 0).1) (by kernel_rfl) (by kernel_rfl) rfl (by decide) h795 (by decide) [0, 1, 2, 4, 5, 6] (by decide) (by decide) (fun A796 c797 w798 hS799 => ?_)
  have hS800 : St (fpL [blk g_f1 (.cells #[(.slice A_f1 f1.length c_f1)] 82 (0, 0)), rowO 88 encN_Row A_f1 c_f1 (tag H_f1 f1), poolO [nestO subN_Row H_f1 f1], blk g_f3 (.cells #[(.slice A_f3 f3.length c_f3)] 36 (0, 0)), rowO 3 encInt A_f3 c_f3 f3]) w w798 [blk g_f0 (.cells #[(iv f0)] 3 (0, 0)), blk g_f2 (.cells #[(.slice A_f2 f2.length c_f2)] 22 (0, 0)), rowR enc_Tile A_f2 c_f2 f2, blk g_f4 (.cells #[(.func (.func 82) #[] #[(.pointer (some ⟨g_f0, 0, none⟩)), (.pointer (some ⟨g_f1, 0, none⟩)), (.pointer (some ⟨g_f2, 0, none⟩)), (.pointer (some ⟨g_f3, 0, none⟩)), (.pointer (some ⟨g_f4, 0, none⟩))])] 115 (0, 0))] [poolO [nestO subN_Row (updH H_f1 f1.length (hd1 A788 c789)) (f1 ++ [t783])], rowO 88 encN_Row A796 c797 (tag (updH H_f1 f1.length (hd1 A788 c789)) (f1 ++ [t783])), rowO 88 encN_Row (some ⟨g790, 0, none⟩) 1 [((hd1 A788 c789), t783)], blk g_f1 (.cells #[(.slice A_f1 f1.length c_f1)] 82 (0, 0)), blk g_f3 (.cells #[(.slice A_f3 f3.length c_f3)] 36 (0, 0)), rowO 3 encInt A_f3 c_f3 f3] := hS799.poolPush 4 rfl 0 (by simp) rfl (hd1 A788 c789) t783 (hS799.ow 2).ofO [2] (fun g hg => ⟨2, by simp, rowO.fpR (hS799.own 2).1 g hg⟩) _ rfl [0, 1, 3, 5, 6] (by decide) (by decide)
  refine ⟨trivial, ?_⟩
  refine WL.store hS800 3 rfl [(0, (.slice A796 (f1 ++ [t783]).length c797))] #[(.slice A796 (f1 ++ [t783]).length c797)] (fun fb => by kernel_rfl) (by kernel_rfl) rfl [0, 1, 2, 4, 5] (by decide) (by decide) (fun w801 hS802 => ?_)
  refine ⟨trivial, ?_⟩
  refine WL.done rfl ?_
  refine WX.next ?_
  refine WC.ret ?_
  injection hf with hf
  subst hf
  exact WX.thenR (WX.ret_ [] (.tuple #[]) [] (fun fb => by kernel_rfl) trivial ⟨_, rfl, A796, c797, (updH H_f1 f1.length (hd1 A788 c789)), A_f3, c_f3, rfl, (hS802.sub [0, 2, 1, 4, 5] (by decide)).noR⟩)
 refine WC.condF2 (fun fb => by kernel_rfl) h760 ?_
 refine WC.skip ?_
 refine WX.next ?_
 refine WC.seq ?_
 refine WC.region ?_
 refine seg 3 [.v (.slice A_f2 f2.length c_f2)] [0, 2, 3, 4, 5, 18, 19, 20] [(0, (iv p0)), (2, (.pointer (some ⟨g_f1, 0, none⟩))), (3, (.pointer (some ⟨g_f2, 0, none⟩))), (4, (.pointer (some ⟨g_f3, 0, none⟩))), (5, (.pointer (some ⟨g_f4, 0, none⟩))), (18, (.slice A_f2 f2.length c_f2)), (19, (iv (f2.length : Int))), (20, (iv 0))] [.cell ⟨g_f2, 0, none⟩ (.slice A_f2 f2.length c_f2)] (fun fb => by kernel_rfl) rfl ⟨blk_cell (hS.rd 1).1 0 rfl, trivial⟩ ?_
 refine WL.done rfl ?_
 refine WX.next ?_
 obtain ⟨x986, hx987, hf⟩ := bind_some hf
 refine WC.cutN (T := ((List Row) × (List Int)) × (Option Addr) × Nat × (Nat → HF) × (Option Addr) × Nat) (fun t => [(2, (.pointer (some ⟨g_f1, 0, none⟩))), (4, (.pointer (some ⟨g_f3, 0, none⟩)))]) (fun t w1 => St (fpL [blk g_f1 (.cells #[(.slice A_f1 f1.length c_f1)] 82 (0, 0)), rowO 88 encN_Row A_f1 c_f1 (tag H_f1 f1), poolO [nestO subN_Row H_f1 f1], blk g_f3 (.cells #[(.slice A_f3 f3.length c_f3)] 36 (0, 0)), rowO 3 encInt A_f3 c_f3 f3]) w w1 [blk g_f0 (.cells #[(iv f0)] 3 (0, 0)), blk g_f2 (.cells #[(.slice A_f2 f2.length c_f2)] 22 (0, 0)), rowR enc_Tile A_f2 c_f2 f2, blk g_f4 (.cells #[(.func (.func 82) #[] #[(.pointer (some ⟨g_f0, 0, none⟩)), (.pointer (some ⟨g_f1, 0, none⟩)), (.pointer (some ⟨g_f2, 0, none⟩)), (.pointer (some ⟨g_f3, 0, none⟩)), (.pointer (some ⟨g_f4, 0, none⟩))])] 115 (0, 0))] [blk g_f1 (.cells #[(.slice t.2.1 t.1.1.length t.2.2.1)] 82 (0, 0)), rowO 88 encN_Row t.2.1 t.2.2.1 (tag t.2.2.2.1 t.1.1), poolO [nestO subN_Row t.2.2.2.1 t.1.1], blk g_f3 (.cells #[(.slice t.2.2.2.2.1 t.1.2.length t.2.2.2.2.2)] 36 (0, 0)), rowO 3 encInt t.2.2.2.2.1 t.2.2.2.2.2 t.1.2] ∧ x986 = t.1) (fun Kx986 => ?_) ?_
 ·
  refine WC.block ?_
  refine WC.loop (T := ((List Row) × (List Int) × Int) × (Option Addr) × Nat × (Nat → HF) × (Option Addr) × Nat) (fun t => [(0, (iv p0)), (2, (.pointer (some ⟨g_f1, 0, none⟩))), (3, (.pointer (some ⟨g_f2, 0, none⟩))), (4, (.pointer (some ⟨g_f3, 0, none⟩))), (5, (.pointer (some ⟨g_f4, 0, none⟩))), (18, (.slice A_f2 f2.length c_f2)), (19, (iv (f2.length : Int))), (20, (iv t.1.2.2))]) (fun n t w1 => St (fpL [blk g_f1 (.cells #[(.slice A_f1 f1.length c_f1)] 82 (0, 0)), rowO 88 encN_Row A_f1 c_f1 (tag H_f1 f1), poolO [nestO subN_Row H_f1 f1], blk g_f3 (.cells #[(.slice A_f3 f3.length c_f3)] 36 (0, 0)), rowO 3 encInt A_f3 c_f3 f3]) w w1 [blk g_f0 (.cells #[(iv f0)] 3 (0, 0)), blk g_f2 (.cells #[(.slice A_f2 f2.length c_f2)] 22 (0, 0)), rowR enc_Tile A_f2 c_f2 f2, blk g_f4 (.cells #[(.func (.func 82) #[] #[(.pointer (some ⟨g_f0, 0, none⟩)), (.pointer (some ⟨g_f1, 0, none⟩)), (.pointer (some ⟨g_f2, 0, none⟩)), (.pointer (some ⟨g_f3, 0, none⟩)), (.pointer (some ⟨g_f4, 0, none⟩))])] 115 (0, 0))] [blk g_f1 (.cells #[(.slice t.2.1 t.1.1.length t.2.2.1)] 82 (0, 0)), rowO 88 encN_Row t.2.1 t.2.2.1 (tag t.2.2.2.1 t.1.1), poolO [nestO subN_Row t.2.2.2.1 t.1.1], blk g_f3 (.cells #[(.slice t.2.2.2.2.1 t.1.2.1.length t.2.2.2.2.2)] 36 (0, 0)), rowO 3 encInt t.2.2.2.2.1 t.2.2.2.2.2 t.1.2.1] ∧ rows_All_1.l0 n t.1.1 t.1.2.1 t.1.2.2 p0 f0 f2 rc_ = some x986) k ((f1, f3, 0), A_f1, c_f1, H_f1, A_f3, c_f3) [0, 2, 3, 4, 5, 18, 19, 20] rfl ⟨(hS.subR [0, 1, 2, 3]).sub [0, 1, 2, 3, 4] (by decide), hx987⟩ ?_
  rintro k988 ⟨⟨l973, l977, x978⟩, A971, c972, H974, A975, c976⟩ w989 ⟨hS990, hl991⟩
  cases k988 with
  | zero => rw [rows_All_1.l0] at hl991; cases hl991
  | succ k988 =>
   rw [rows_All_1.l0] at hl991
   refine WC.seq ?_
   refine WC.region ?_
   refine seg 1 [] [0, 2, 3, 4, 5, 18, 19, 20, 21] [(0, (iv p0)), (2, (.pointer (some ⟨g_f1, 0, none⟩))), (3, (.pointer (some ⟨g_f2, 0, none⟩))), (4, (.pointer (some ⟨g_f3, 0, none⟩))), (5, (.pointer (some ⟨g_f4, 0, none⟩))), (18, (.slice A_f2 f2.length c_f2)), (19, (iv (f2.length : Int))), (20, (iv x978)), (21, (.bool (decide (x978 < (f2.length : Int)))))] [] (fun fb => by kernel_rfl) rfl trivial ?_
   refine WL.done rfl ?_
   refine WX.next ?_
   refine WC.seq ?_
   rcases br_some hl991 with ⟨h992, hl991⟩ | ⟨h992, hl991⟩
   ·refine WC.condT2 (fun fb => by kernel_rfl) h992 ?_
    refine WC.skip ?_
    refine WX.next ?_
    refine WC.seq ?_
    refine WC.block ?_
    refine WC.seq ?_
    refine WC.region ?_
    refine seg 1 [] [0, 2, 3, 4, 5, 18, 19, 20, 22] [(0, (iv p0)), (2, (.pointer (some ⟨g_f1, 0, none⟩))), (3, (.pointer (some ⟨g_f2, 0, none⟩))), (4, (.pointer (some ⟨g_f3, 0, none⟩))), (5, (.pointer (some ⟨g_f4, 0, none⟩))), (18, (.slice A_f2 f2.length c_f2)), (19, (iv (f2.length : Int))), (20, (iv x978)), (22, (iv x978))] [] (fun fb => by kernel_rfl) rfl trivial ?_
    obtain ⟨h993, hl991⟩ := as_some hl991
    refine seg 3 [.v (iv ((rdD f2 x978 z_Tile).N)), .v (iv ((rdD f2 x978 z_Tile).E)), .v (iv ((rdD f2 x978 z_Tile).S)), .v (iv ((rdD f2 x978 z_Tile).W))] [0, 2, 3, 4, 5, 18, 19, 20, 22, 24] [(0, (iv p0)), (2, (.pointer (some ⟨g_f1, 0, none⟩))), (3, (.pointer (some ⟨g_f2, 0, none⟩))), (4, (.pointer (some ⟨g_f3, 0, none⟩))), (5, (.pointer (some ⟨g_f4, 0, none⟩))), (18, (.slice A_f2 f2.length c_f2)), (19, (iv (f2.length : Int))), (20, (iv x978)), (22, (iv x978)), (24, (.agg #[(iv ((rdD f2 x978 z_Tile).N)), (iv ((rdD f2 x978 z_Tile).E)), (iv ((rdD f2 x978 z_Tile).S)), (iv ((rdD f2 x978 z_Tile).W))]))] [.idx A_f2 x978 f2.length, .cell ((adr A_f2).add ((x978).toNat * 4)) (iv ((rdD f2 x978 z_Tile).N)), .cell (((adr A_f2).add ((x978).toNat * 4)).add 1) (iv ((rdD f2 x978 z_Tile).E)), .cell (((adr A_f2).add ((x978).toNat * 4)).add 2) (iv ((rdD f2 x978 z_Tile).S)), .cell (((adr A_f2).add ((x978).toNat * 4)).add 3) (iv ((rdD f2 x978 z_Tile).W))] (fun fb => by kernel_rfl) rfl ⟨rowR.adr (hS990.rd 2).1 h993.1 h993.2, rowR.cell (hS990.rd 2).1 z_Tile h993.1 h993.2 0 rfl, rowR.cell (hS990.rd 2).1 z_Tile h993.1 h993.2 1 rfl, rowR.cell (hS990.rd 2).1 z_Tile h993.1 h993.2 2 rfl, rowR.cell (hS990.rd 2).1 z_Tile h993.1 h993.2 3 rfl, trivial⟩ ?_
    refine WL.new hS990 8 [] (fun g => (.pointer (some ⟨g, 0, none⟩))) (.cells #[(iv 0), (iv 0), (iv 0), (iv 0)] 24 (0, 0)) [] (fun fb g => by kernel_rfl) trivial (fun g994 w995 hS996 => ?_)
    refine ⟨trivial, ?_⟩
    refine seg 5 [] [0, 2, 3, 4, 5, 7, 8, 18, 19, 20, 24] [(0, (iv p0)), (2, (.pointer (some ⟨g_f1, 0, none⟩))), (3, (.pointer (some ⟨g_f2, 0, none⟩))), (4, (.pointer (some ⟨g_f3, 0, none⟩))), (5, (.pointer (some ⟨g_f4, 0, none⟩))), (7, (iv x978)), (8, (pt g994)), (18, (.slice A_f2 f2.length c_f2)), (19, (iv (f2.length : Int))), (20, (iv x978)), (24, (.agg #[(iv ((rdD f2 x978 z_Tile).N)), (iv ((rdD f2 x978 z_Tile).E)), (iv ((rdD f2 x978 z_Tile).S)), (iv ((rdD f2 x978 z_Tile).W))]))] [] (fun fb => by kernel_rfl) rfl trivial ?_
    refine WL.store hS996 0 rfl [(0, (iv ((rdD f2 x978 z_Tile).N))), (1, (iv ((rdD f2 x978 z_Tile).E))), (2, (iv ((rdD f2 x978 z_Tile).S))), (3, (iv ((rdD f2 x978 z_Tile).W)))] #[(iv ((rdD f2 x978 z_Tile).N)), (iv ((rdD f2 x978 z_Tile).E)), (iv ((rdD f2 x978 z_Tile).S)), (iv ((rdD f2 x978 z_Tile).W))] (fun fb => by kernel_rfl) (by kernel_rfl) rfl [1, 2, 3, 4, 5] (by decide) (by decide) (fun w998 hS999 => ?_)
    refine ⟨trivial, ?_⟩
    refine WL.done rfl ?_
    refine WX.next ?_
    refine WC.seq ?_
    obtain ⟨x1012, hx1013, hl991⟩ := bind_some hl991
    refine WC.cutN (T := Bool) (fun t => [(0, (iv p0)), (2, (.pointer (some ⟨g_f1, 0, none⟩))), (3, (.pointer (some ⟨g_f2, 0, none⟩))), (4, (.pointer (some ⟨g_f3, 0, none⟩))), (5, (.pointer (some ⟨g_f4, 0, none⟩))), (7, (iv x978)), (18, (.slice A_f2 f2.length c_f2)), (19, (iv (f2.length : Int))), (20, (iv x978)), (40, (.bool t))]) (fun t w1 => St (fpL [blk g_f1 (.cells #[(.slice A_f1 f1.length c_f1)] 82 (0, 0)), rowO 88 encN_Row A_f1 c_f1 (tag H_f1 f1), poolO [nestO subN_Row H_f1 f1], blk g_f3 (.cells #[(.slice A_f3 f3.length c_f3)] 36 (0, 0)), rowO 3 encInt A_f3 c_f3 f3]) w w1 [blk g_f0 (.cells #[(iv f0)] 3 (0, 0)), blk g_f2 (.cells #[(.slice A_f2 f2.length c_f2)] 22 (0, 0)), rowR enc_Tile A_f2 c_f2 f2, blk g_f4 (.cells #[(.func (.func 82) #[] #[(.pointer (some ⟨g_f0, 0, none⟩)), (.pointer (some ⟨g_f1, 0, none⟩)), (.pointer (some ⟨g_f2, 0, none⟩)), (.pointer (some ⟨g_f3, 0, none⟩)), (.pointer (some ⟨g_f4, 0, none⟩))])] 115 (0, 0))] [blk g_f1 (.cells #[(.slice A971 l973.length c972)] 82 (0, 0)), rowO 88 encN_Row A971 c972 (tag H974 l973), poolO [nestO subN_Row H974 l973], blk g_f3 (.cells #[(.slice A975 l977.length c976)] 36 (0, 0)), rowO 3 encInt A975 c976 l977] ∧ x1012 = t) (fun Kx1012 => ?_) ?_
    ·
     rcases br_some hx1013 with ⟨h1014, hx1013⟩ | ⟨h1014, hx1013⟩
     ·
      refine WC.regionD ([], [0, 1, 2, 3, 4, 5, 6, 7, 8, 9, 10, 11, 12, 13, 14, 15], [[], [0], [0, 1], [0, 1, 2], [0, 1, 2], [0, 1, 2], [0, 1, 2, 5], [0, 1, 2, 4, 5, 6], [0, 1, 2, 4, 5, 6, 7], [0, 1, 2, 3, 4, 5, 6, 7, 8], [0, 1, 2, 3, 4, 5, 6, 7, 8, 9], [0, 1, 2, 3, 4, 5, 6, 7, 8, 9, 10], [0, 1, 2], [0, 1, 2, 12], [0, 1, 2, 3, 4, 5, 6, 7, 8, 9, 10, 11, 12, 13], [0, 1, 2, 3, 4, 5, 6, 7, 8, 9, 10, 11, 12, 13, 14]]) [[0, 1, 2, 3, 4, 5, 6, 7, 8, 9, 10, 11, 12, 13, 14, 15]] (by kernel_rfl) (by kernel_rfl) (NoPanic.seq (NoPanic.block (NoPanic.seq (NoPanic.seq (NoPanic.block (NoPanic.body)))))) ?_
      have hS1016 := hS999.drew
      revert hS1016
      generalize World.drew w998 = w1015
      intro hS1016
      refine ⟨trivial, forallC ?_ (forallN)⟩
      refine seg 3 [] [0, 2, 3, 4, 5, 7, 8, 18, 19, 20, 27] [(0, (iv p0)), (2, (.pointer (some ⟨g_f1, 0, none⟩))), (3, (.pointer (some ⟨g_f2, 0, none⟩))), (4, (.pointer (some ⟨g_f3, 0, none⟩))), (5, (.pointer (some ⟨g_f4, 0, none⟩))), (7, (iv x978)), (8, (pt g994)), (18, (.slice A_f2 f2.length c_f2)), (19, (iv (f2.length : Int))), (20, (iv x978)), (27, (.bool (p0 == 0)))] [] (fun fb => by kernel_rfl) rfl trivial ?_
      refine WL.setB 27 h1014 rfl ?_
      refine seg 16 [] [0, 2, 3, 4, 5, 7, 18, 19, 20, 40] [(0, (iv p0)), (2, (.pointer (some ⟨g_f1, 0, none⟩))), (3, (.pointer (some ⟨g_f2, 0, none⟩))), (4, (.pointer (some ⟨g_f3, 0, none⟩))), (5, (.pointer (some ⟨g_f4, 0, none⟩))), (7, (iv x978)), (18, (.slice A_f2 f2.length c_f2)), (19, (iv (f2.length : Int))), (20, (iv x978)), (40, (.bool true))] [] (fun fb => by kernel_rfl) rfl trivial ?_
      refine WL.done rfl ?_
      injection hx1013 with hx1013
      exact WX.to Kx1012 true [0, 2, 3, 4, 5, 7, 18, 19, 20, 40] rfl ⟨(hS1016.subR [0, 1, 2, 3]).sub [1, 2, 3, 4, 5] (by decide), hx1013.symm⟩
     obtain ⟨h1023, hx1013⟩ := as_some hx1013
     obtain ⟨h1024, hx1013⟩ := as_some hx1013
     refine WC.regionD ([(3, ⟨g_f2, 0, none⟩, (.slice A_f2 f2.length c_f2)), (4, ⟨g_f3, 0, none⟩, (.slice A975 l977.length c976)), (8, ((adr A975).add ((w64 (p0 - 1)).toNat * 1)), (iv (rdD l977 (w64 (p0 - 1)) 0))), (11, (((adr A_f2).add (((rdD l977 (w64 (p0 - 1)) 0)).toNat * 4)).add 1), (iv ((rdD f2 (rdD l977 (w64 (p0 - 1)) 0) z_Tile).E))), (13, ⟨g994, 3, none⟩, (iv ((rdD f2 x978 z_Tile).W)))], [0, 1, 2, 3, 4, 5, 6, 7, 8, 9, 10, 11, 12, 13, 14, 15], [[], [0], [0, 1], [0, 1, 2], [0, 1, 2], [0, 1, 2], [0, 1, 2, 5], [0, 1, 2, 4, 5, 6], [0, 1, 2, 4, 5, 6, 7], [0, 1, 2, 3, 4, 5, 6, 7, 8], [0, 1, 2, 3, 4, 5, 6, 7, 8, 9], [0, 1, 2, 3, 4, 5, 6, 7, 8, 9, 10], [0, 1, 2], [0, 1, 2, 12], [0, 1, 2, 3, 4, 5, 6, 7, 8, 9, 10, 11, 12, 13], [0, 1, 2, 3, 4, 5, 6, 7, 8, 9, 10, 11, 12, 13, 14]]) [[0, 1, 2, 3, 4, 5, 6, 7, 8, 9, 10, 11, 12, 13, 14, 15]] (by kernel_rfl) (by kernel_rfl) (NoPanic.seq (NoPanic.block (NoPanic.seq (NoPanic.seq (NoPanic.block (NoPanic.body)))))) ?_
     have hS1020 := hS999.drew
     revert hS1020
     generalize World.drew w998 = w1019
     intro hS1020
     refine ⟨⟨blk_cell (hS1020.rd 1).1 0 rfl, hS1020.cell 4 rfl 0 rfl, rowR.cell (rowO.rd (hS1020.own 5).1) 0 h1023.1 h1023.2 0 rfl, rowR.cell (hS1020.rd 2).1 z_Tile h1024.1 h1024.2 1 rfl, hS1020.cell 0 rfl 3 rfl, trivial⟩, forallC ?_ (forallN)⟩
     refine seg 3 [] [0, 2, 3, 4, 5, 7, 8, 18, 19, 20, 27] [(0, (iv p0)), (2, (.pointer (some ⟨g_f1, 0, none⟩))), (3, (.pointer (some ⟨g_f2, 0, none⟩))), (4, (.pointer (some ⟨g_f3, 0, none⟩))), (5, (.pointer (some ⟨g_f4, 0, none⟩))), (7, (iv x978)), (8, (pt g994)), (18, (.slice A_f2 f2.length c_f2)), (19, (iv (f2.length : Int))), (20, (iv x978)), (27, (.bool (p0 == 0)))] [] (fun fb => by kernel_rfl) rfl trivial ?_
     refine WL.setB 27 h1014 rfl ?_
     refine segF 16 [.v (.slice A_f2 f2.length c_f2), .v (.slice A975 l977.length c976), .v (iv (rdD l977 (w64 (p0 - 1)) 0)), .v (iv ((rdD f2 (rdD l977 (w64 (p0 - 1)) 0) z_Tile).E)), .v (iv ((rdD f2 x978 z_Tile).W))] [0, 2, 3, 4, 5, 7, 18, 19, 20, 40] [(0, (iv p0)), (2, (.pointer (some ⟨g_f1, 0, none⟩))), (3, (.pointer (some ⟨g_f2, 0, none⟩))), (4, (.pointer (some ⟨g_f3, 0, none⟩))), (5, (.pointer (some ⟨g_f4, 0, none⟩))), (7, (iv x978)), (18, (.slice A_f2 f2.length c_f2)), (19, (iv (f2.length : Int))), (20, (iv x978)), (40, (.bool (((rdD f2 (rdD l977 (w64 (p0 - 1)) 0) z_Tile).E) == ((rdD f2 x978 z_Tile).W))))] [.idx A975 (w64 (p0 - 1)) l977.length, .idx A_f2 (rdD l977 (w64 (p0 - 1)) 0) f2.length] [0, 1, 2, 3, 4] [(3, ⟨g_f2, 0, none⟩, (.slice A_f2 f2.length c_f2)), (4, ⟨g_f3, 0, none⟩, (.slice A975 l977.length c976)), (8, ((adr A975).add ((w64 (p0 - 1)).toNat * 1)), (iv (rdD l977 (w64 (p0 - 1)) 0))), (11, (((adr A_f2).add (((rdD l977 (w64 (p0 - 1)) 0)).toNat * 4)).add 1), (iv ((rdD f2 (rdD l977 (w64 (p0 - 1)) 0) z_Tile).E))), (13, ⟨g994, 3, none⟩, (iv ((rdD f2 x978 z_Tile).W)))] (fun fb => by kernel_rfl) rfl ⟨rowR.adr (rowO.rd (hS1020.own 5).1) h1023.1 h1023.2, rowR.adr (hS1020.rd 2).1 h1024.1 h1024.2, trivial⟩ rfl ?_
     refine WL.done rfl ?_
     injection hx1013 with hx1013
     exact WX.to Kx1012 (((rdD f2 (rdD l977 (w64 (p0 - 1)) 0) z_Tile).E) == ((rdD f2 x978 z_Tile).W)) [0, 2, 3, 4, 5, 7, 18, 19, 20, 40] rfl ⟨(hS1020.subR [0, 1, 2, 3]).sub [1, 2, 3, 4, 5] (by decide), hx1013.symm⟩
    rintro y1028 w1025 ⟨hS1026, hq1027⟩
    subst hq1027
    refine WX.next ?_
    obtain ⟨x1051, hx1052, hl991⟩ := bind_some hl991
    refine WC.cutN (T := ((List Row) × (List Int)) × (Option Addr) × Nat × (Nat → HF) × (Option Addr) × Nat) (fun t => [(0, (iv p0)), (2, (.pointer (some ⟨g_f1, 0, none⟩))), (3, (.pointer (some ⟨g_f2, 0, none⟩))), (4, (.pointer (some ⟨g_f3, 0, none⟩))), (5, (.pointer (some ⟨g_f4, 0, none⟩))), (18, (.slice A_f2 f2.length c_f2)), (19, (iv (f2.length : Int))), (20, (iv x978))]) (fun t w1 => St (fpL [blk g_f1 (.cells #[(.slice A_f1 f1.length c_f1)] 82 (0, 0)), rowO 88 encN_Row A_f1 c_f1 (tag H_f1 f1), poolO [nestO subN_Row H_f1 f1], blk g_f3 (.cells #[(.slice A_f3 f3.length c_f3)] 36 (0, 0)), rowO 3 encInt A_f3 c_f3 f3]) w w1 [blk g_f0 (.cells #[(iv f0)] 3 (0, 0)), blk g_f2 (.cells #[(.slice A_f2 f2.length c_f2)] 22 (0, 0)), rowR enc_Tile A_f2 c_f2 f2, blk g_f4 (.cells #[(.func (.func 82) #[] #[(.pointer (some ⟨g_f0, 0, none⟩)), (.pointer (some ⟨g_f1, 0, none⟩)), (.pointer (some ⟨g_f2, 0, none⟩)), (.pointer (some ⟨g_f3, 0, none⟩)), (.pointer (some ⟨g_f4, 0, none⟩))])] 115 (0, 0))] [blk g_f1 (.cells #[(.slice t.2.1 t.1.1.length t.2.2.1)] 82 (0, 0)), rowO 88 encN_Row t.2.1 t.2.2.1 (tag t.2.2.2.1 t.1.1), poolO [nestO subN_Row t.2.2.2.1 t.1.1], blk g_f3 (.cells #[(.slice t.2.2.2.2.1 t.1.2.length t.2.2.2.2.2)] 36 (0, 0)), rowO 3 encInt t.2.2.2.2.1 t.2.2.2.2.2 t.1.2] ∧ x1051 = t.1) (fun Kx1051 => ?_) ?_
    ·
     rcases br_some hx1052 with ⟨h1053, hx1052⟩ | ⟨h1053, hx1052⟩
     ·refine WC.condT2 (fun fb => by kernel_rfl) h1053 ?_
      refine WC.seq ?_
      refine WC.region ?_
      refine seg 3 [.v (.slice A975 l977.length c976)] [0, 2, 3, 4, 5, 18, 19, 20, 41, 42, 43] [(0, (iv p0)), (2, (.pointer (some ⟨g_f1, 0, none⟩))), (3, (.pointer (some ⟨g_f2, 0, none⟩))), (4, (.pointer (some ⟨g_f3, 0, none⟩))), (5, (.pointer (some ⟨g_f4, 0, none⟩))), (18, (.slice A_f2 f2.length c_f2)), (19, (iv (f2.length : Int))), (20, (iv x978)), (41, (.slice A975 l977.length c976)), (42, (iv p0)), (43, (iv x978))] [.cell ⟨g_f3, 0, none⟩ (.slice A975 l977.length c976)] (fun fb => by kernel_rfl) rfl ⟨hS1026.cell 3 rfl 0 rfl, trivial⟩ ?_
      obtain ⟨h1054, hx1052⟩ := as_some hx1052
      refine seg 4 [] [0, 2, 3, 4, 5, 18, 19, 20, 43, 44] [(0, (iv p0)), (2, (.pointer (some ⟨g_f1, 0, none⟩))), (3, (.pointer (some ⟨g_f2, 0, none⟩))), (4, (.pointer (some ⟨g_f3, 0, none⟩))), (5, (.pointer (some ⟨g_f4, 0, none⟩))), (18, (.slice A_f2 f2.length c_f2)), (19, (iv (f2.length : Int))), (20, (iv x978)), (43, (iv x978)), (44, (.pointer (some ((adr A975).add ((p0).toNat * 1)))))] [.idx A975 p0 l977.length] (fun fb => by kernel_rfl) rfl ⟨rowR.adr (rowO.rd (hS1026.own 4).1) h1054.1 h1054.2, trivial⟩ ?_
      refine WL.storeRow hS1026 4 rfl (p0) (x978) (0) [(0, (iv x978))] (fun fb => by kernel_rfl) h1054.1 h1054.2 (by kernel_rfl) rfl [0, 1, 2, 3] (by decide) (by decide) (fun w1055 hS1056 => ?_)
      refine ⟨trivial, ?_⟩
      have hS1057 : St (fpL [blk g_f1 (.cells #[(.slice A_f1 f1.length c_f1)] 82 (0, 0)), rowO 88 encN_Row A_f1 c_f1 (tag H_f1 f1), poolO [nestO subN_Row H_f1 f1], blk g_f3 (.cells #[(.slice A_f3 f3.length c_f3)] 36 (0, 0)), rowO 3 encInt A_f3 c_f3 f3]) w w1055 [blk g_f0 (.cells #[(iv f0)] 3 (0, 0)), blk g_f2 (.cells #[(.slice A_f2 f2.length c_f2)] 22 (0, 0)), rowR enc_Tile A_f2 c_f2 f2, blk g_f4 (.cells #[(.func (.func 82) #[] #[(.pointer (some ⟨g_f0, 0, none⟩)), (.pointer (some ⟨g_f1, 0, none⟩)), (.pointer (some ⟨g_f2, 0, none⟩)), (.pointer (some ⟨g_f3, 0, none⟩)), (.pointer (some ⟨g_f4, 0, none⟩))])] 115 (0, 0))] [rowO 3 encInt A975 c976 (l977.set (p0).toNat x978), blk g_f1 (.cells #[(.slice A971 l973.length c972)] 82 (0, 0)), rowO 88 encN_Row A971 c972 (tag H974 l973), poolO [nestO subN_Row H974 l973], blk g_f3 (.cells #[(.slice A975 (l977.set (p0).toNat x978).length c976)] 36 (0, 0))] := by simpa only [List.length_set] using (show St (fpL [blk g_f1 (.cells #[(.slice A_f1 f1.length c_f1)] 82 (0, 0)), rowO 88 encN_Row A_f1 c_f1 (tag H_f1 f1), poolO [nestO subN_Row H_f1 f1], blk g_f3 (.cells #[(.slice A_f3 f3.length c_f3)] 36 (0, 0)), rowO 3 encInt A_f3 c_f3 f3]) w w1055 [blk g_f0 (.cells #[(iv f0)] 3 (0, 0)), blk g_f2 (.cells #[(.slice A_f2 f2.length c_f2)] 22 (0, 0)), rowR enc_Tile A_f2 c_f2 f2, blk g_f4 (.cells #[(.func (.func 82) #[] #[(.pointer (some ⟨g_f0, 0, none⟩)), (.pointer (some ⟨g_f1, 0, none⟩)), (.pointer (some ⟨g_f2, 0, none⟩)), (.pointer (some ⟨g_f3, 0, none⟩)), (.pointer (some ⟨g_f4, 0, none⟩))])] 115 (0, 0))] [rowO 3 encInt A975 c976 (l977.set (p0).toNat x978), blk g_f1 (.cells #[(.slice A971 l973.length c972)] 82 (0, 0)), rowO 88 encN_Row A971 c972 (tag H974 l973), poolO [nestO subN_Row H974 l973], blk g_f3 (.cells #[(.slice A975 l977.length c976)] 36 (0, 0))] from hS1056)
      refine WL.done rfl ?_
      refine WX.next ?_
      refine WC.region ?_
      refine seg 3 [.v (.func (.func 82) #[] #[(.pointer (some ⟨g_f0, 0, none⟩)), (.pointer (some ⟨g_f1, 0, none⟩)), (.pointer (some ⟨g_f2, 0, none⟩)), (.pointer (some ⟨g_f3, 0, none⟩)), (.pointer (some ⟨g_f4, 0, none⟩))])] [0, 2, 3, 4, 5, 18, 19, 20, 45, 47] [(0, (iv p0)), (2, (.pointer (some ⟨g_f1, 0, none⟩))), (3, (.pointer (some ⟨g_f2, 0, none⟩))), (4, (.pointer (some ⟨g_f3, 0, none⟩))), (5, (.pointer (some ⟨g_f4, 0, none⟩))), (18, (.slice A_f2 f2.length c_f2)), (19, (iv (f2.length : Int))), (20, (iv x978)), (45, (.func (.func 82) #[] #[(.pointer (some ⟨g_f0, 0, none⟩)), (.pointer (some ⟨g_f1, 0, none⟩)), (.pointer (some ⟨g_f2, 0, none⟩)), (.pointer (some ⟨g_f3, 0, none⟩)), (.pointer (some ⟨g_f4, 0, none⟩))])), (47, (iv (w64 (p0 + 1))))] [.cell ⟨g_f4, 0, none⟩ (.func (.func 82) #[] #[(.pointer (some ⟨g_f0, 0, none⟩)), (.pointer (some ⟨g_f1, 0, none⟩)), (.pointer (some ⟨g_f2, 0, none⟩)), (.pointer (some ⟨g_f3, 0, none⟩)), (.pointer (some ⟨g_f4, 0, none⟩))])] (fun fb => by kernel_rfl) rfl ⟨blk_cell (hS1057.rd 3).1 0 rfl, trivial⟩ ?_
      obtain ⟨t1058, ht1059, hx1052⟩ := bind_some hx1052
      refine WL.call (some 48) 82 #[(iv (w64 (p0 + 1))), (.pointer (some ⟨g_f0, 0, none⟩)), (.pointer (some ⟨g_f1, 0, none⟩)), (.pointer (some ⟨g_f2, 0, none⟩)), (.pointer (some ⟨g_f3, 0, none⟩)), (.pointer (some ⟨g_f4, 0, none⟩))] (fun fb => by kernel_rfl) (ih_ (w64 (p0 + 1)) f0 l973 f2 (l977.set (p0).toNat x978) g_f0 g_f1 A971 c972 H974 g_f2 A_f2 c_f2 g_f3 A975 c976 g_f4 t1058 _ (hS1057.rdT [1, 2, 3, 4, 0] 0) (hS1057.rdT [1, 2, 3, 4, 0] 1) (hS1057.rdT [1, 2, 3, 4, 0] 2) (hS1057.rdT [1, 2, 3, 4, 0] 3) (hS1057.io [1, 2, 3, 4, 0] (by decide)) ht1059) (fun v w1060 hR1061 => ?_)
      obtain ⟨A1063, c1064, H1065, A1066, c1067, rfl, hk_⟩ := hR1061
      have hS1062 : St (fpL [blk g_f1 (.cells #[(.slice A_f1 f1.length c_f1)] 82 (0, 0)), rowO 88 encN_Row A_f1 c_f1 (tag H_f1 f1), poolO [nestO subN_Row H_f1 f1], blk g_f3 (.cells #[(.slice A_f3 f3.length c_f3)] 36 (0, 0)), rowO 3 encInt A_f3 c_f3 f3]) w w1060 [blk g_f0 (.cells #[(iv f0)] 3 (0, 0)), blk g_f2 (.cells #[(.slice A_f2 f2.length c_f2)] 22 (0, 0)), rowR enc_Tile A_f2 c_f2 f2, blk g_f4 (.cells #[(.func (.func 82) #[] #[(.pointer (some ⟨g_f0, 0, none⟩)), (.pointer (some ⟨g_f1, 0, none⟩)), (.pointer (some ⟨g_f2, 0, none⟩)), (.pointer (some ⟨g_f3, 0, none⟩)), (.pointer (some ⟨g_f4, 0, none⟩))])] 115 (0, 0))] [blk g_f1 (.cells #[(.slice A1063 t1058.1.length c1064)] 82 (0, 0)), rowO 88 encN_Row A1063 c1064 (tag H1065 t1058.1), poolO [nestO subN_Row H1065 t1058.1], blk g_f3 (.cells #[(.slice A1066 t1058.2.length c1067)] 36 (0, 0)), rowO 3 encInt A1066 c1067 t1058.2] := hS1057.call hk_ [1, 2, 3, 4, 0] [] (fun g hg => fpL_sel g hg) (by decide) (by decide)
      refine ⟨trivial, ?_⟩
      refine WL.done rfl ?_
      injection hx1052 with hx1052
      exact WX.to Kx1051 ((t1058.1, t1058.2), A1063, c1064, H1065, A1066, c1067) [0, 2, 3, 4, 5, 18, 19, 20] rfl ⟨(hS1062.subR [0, 1, 2, 3]).sub [0, 1, 2, 3, 4] (by decide), hx1052.symm⟩
     refine WC.condF2 (fun fb => by kernel_rfl) h1053 ?_
     refine WC.skip ?_
     injection hx1052 with hx1052
     exact WX.to Kx1051 ((l973, l977), A971, c972, H974, A975, c976) [0, 2, 3, 4, 5, 18, 19, 20] rfl ⟨(hS1026.subR [0, 1, 2, 3]).sub [0, 1, 2, 3, 4] (by decide), hx1052.symm⟩
    rintro ⟨y1071, A1044, c1045, H1047, A1048, c1049⟩ w1068 ⟨hS1069, hq1070⟩
    subst hq1070
    refine WX.blockN (WX.next ?_)
    refine WC.region ?_
    refine seg 2 [] [0, 2, 3, 4, 5, 18, 19, 20] [(0, (iv p0)), (2, (.pointer (some ⟨g_f1, 0, none⟩))), (3, (.pointer (some ⟨g_f2, 0, none⟩))), (4, (.pointer (some ⟨g_f3, 0, none⟩))), (5, (.pointer (some ⟨g_f4, 0, none⟩))), (18, (.slice A_f2 f2.length c_f2)), (19, (iv (f2.length : Int))), (20, (iv (w64 (x978 + 1))))] [] (fun fb => by kernel_rfl) rfl trivial ?_
    refine WL.done rfl ?_
    exact WX.again k988 (Nat.lt_succ_self _) ((x1051.1, x1051.2, w64 (x978 + 1)), A1044, c1045, H1047, A1048, c1049) [0, 2, 3, 4, 5, 18, 19, 20] rfl ⟨(hS1069.subR [0, 1, 2, 3]).sub [0, 1, 2, 3, 4] (by decide), hl991⟩
   refine WC.condF2 (fun fb => by kernel_rfl) h992 ?_
   refine WC.exit ?_
   injection hl991 with hl991
   exact WX.thenX (WX.thenX (WX.blockHere (WX.to Kx986 ((l973, l977), A971, c972, H974, A975, c976) [2, 4] rfl ⟨(hS990.subR [0, 1, 2, 3]).sub [0, 1, 2, 3, 4] (by decide), hl991.symm⟩)))
 rintro ⟨y1075, A979, c980, H982, A983, c984⟩ w1072 ⟨hS1073, hq1074⟩
 subst hq1074
 injection hf with hf
 subst hf
 exact WX.end_ [] (.tuple #[]) [] (fun fb => by kernel_rfl) trivial ⟨_, rfl, A979, c980, H982, A983, c984, rfl, (hS1073.sub [0, 1, 2, 3, 4] (by decide)).noR⟩
theorem rows_All_calls (k : Nat) (p0 : List Tile) (p1 : Int) (A_p0 : Option Addr) (c_p0 : Nat) (r : (List Row)) (w : World) (hR0 : RO NoS w (rowR enc_Tile A_p0 c_p0 p0)) (hf : rows_All k p0 p1 = some r) :
  CallsR Try.prog 67 #[(.slice A_p0 p0.length c_p0), (iv p1)] w (fun v w' => ∃ (A1_ : Option Addr), ∃ (c1_ : Nat), ∃ (h1_ : Nat → HF), v = (.slice A1_ r.length c1_) ∧ St NoS w w' [] [rowO 88 encN_Row A1_ c1_ (tag h1_ r), poolO [nestO subN_Row h1_ r]]) := by
 have hS : St NoS w w [rowR enc_Tile A_p0 c_p0 p0] [] := St.init (ro_cons hR0 (ro_nil _ _))
 refine enter 14 Try.func67 rfl Try.ntmps67 rfl ?_
 unfold rows_All at hf
 refine WC.seq ?_
 refine WC.region ?_
 refine WL.new hS 2 [] (fun g => (.pointer (some ⟨g, 0, none⟩))) (.cells #[(.slice A_p0 p0.length c_p0)] 22 (0, 0)) [] (fun fb g => by kernel_rfl) trivial (fun g398 w399 hS400 => ?_)
 refine ⟨trivial, ?_⟩
 refine WL.new hS400 3 [] (fun g => (.pointer (some ⟨g, 0, none⟩))) (.cells #[(iv p1)] 3 (0, 0)) [] (fun fb g => by kernel_rfl) trivial (fun g402 w403 hS404 => ?_)
 refine ⟨trivial, ?_⟩
 refine seg 3 [] [2, 3] [(2, (pt g398)), (3, (pt g402))] [] (fun fb => by kernel_rfl) rfl trivial ?_
 refine WL.done rfl ?_
 refine WX.next ?_
 refine WC.seq ?_
 refine WC.region ?_
 refine WL.new hS404 5 [] (fun g => (.pointer (some ⟨g, 0, none⟩))) (.cells #[(.slice none 0 0)] 82 (0, 0)) [] (fun fb g => by kernel_rfl) trivial (fun g406 w407 hS408 => ?_)
 refine ⟨trivial, ?_⟩
 refine WL.done rfl ?_
 refine WX.next ?_
 refine WC.seq ?_
 refine WC.region ?_
 refine seg 1 [.v (iv p1)] [2, 3, 5, 8] [(2, (pt g398)), (3, (pt g402)), (5, (pt g406)), (8, (iv p1))] [.cell ⟨g402, 0, none⟩ (iv p1)] (fun fb => by kernel_rfl) rfl ⟨hS408.cell 1 rfl 0 rfl, trivial⟩ ?_
 obtain ⟨h410, hf⟩ := as_some hf
 refine WL.make hS408 (e := encInt) (T := 3) (tS := 36) (z := (iv 0)) (bytes := 8) (d := 9) (0 : Int) p1 (fun fb => by kernel_rfl) (by kernel_rfl) (by kernel_rfl) rfl (by decide) h410 (by decide) (fun g411 w412 hS413 => ?_)
 refine ⟨trivial, ?_⟩
 refine WL.new hS413 6 [] (fun g => (.pointer (some ⟨g, 0, none⟩))) (.cells #[(.slice none 0 0)] 36 (0, 0)) [] (fun fb g => by kernel_rfl) trivial (fun g414 w415 hS416 => ?_)
 refine ⟨trivial, ?_⟩
 refine WL.store hS416 0 rfl [(0, (.slice (some ⟨g411, 0, none⟩) (List.replicate p1.toNat (0 : Int)).length p1.toNat))] #[(.slice (some ⟨g411, 0, none⟩) (List.replicate p1.toNat (0 : Int)).length p1.toNat)] (fun fb => by kernel_rfl) (by kernel_rfl) rfl [1, 2, 3, 4] (by decide) (by decide) (fun w418 hS419 => ?_)
 refine ⟨trivial, ?_⟩
 refine WL.done rfl ?_
 refine WX.next ?_
 refine WC.seq ?_
 refine WC.region ?_
 refine WL.new hS419 7 [] (fun g => (.pointer (some ⟨g, 0, none⟩))) (.cells #[.nilFunc] 115 (0, 0)) [] (fun fb g => by kernel_rfl) trivial (fun g420 w421 hS422 => ?_)
 refine ⟨trivial, ?_⟩
 refine WL.done rfl ?_
 refine WX.next ?_
 refine WC.seq ?_
 refine WC.region ?_
 refine seg 1 [] [5, 7, 10] [(5, (pt g406)), (7, (pt g420)), (10, (.func (.func 82) #[] #[(pt g402), (pt g406), (pt g398), (pt g414), (pt g420)]))] [] (fun fb => by kernel_rfl) rfl trivial ?_
 refine WL.store hS422 0 rfl [(0, (.func (.func 82) #[] #[(pt g402), (pt g406), (pt g398), (pt g414), (pt g420)]))] #[(.func (.func 82) #[] #[(pt g402), (pt g406), (pt g398), (pt g414), (pt g420)])] (fun fb => by kernel_rfl) (by kernel_rfl) rfl [1, 2, 3, 4, 5] (by decide) (by decide) (fun w424 hS425 => ?_)
 refine ⟨trivial, ?_⟩
 refine WL.done rfl ?_
 refine WX.next ?_
 refine WC.seq ?_
 refine WC.region ?_
 refine seg 1 [.v (.func (.func 82) #[] #[(pt g402), (pt g406), (pt g398), (pt g414), (pt g420)])] [5, 11] [(5, (pt g406)), (11, (.func (.func 82) #[] #[(pt g402), (pt g406), (pt g398), (pt g414), (pt g420)]))] [.cell ⟨g420, 0, none⟩ (.func (.func 82) #[] #[(pt g402), (pt g406), (pt g398), (pt g414), (pt g420)])] (fun fb => by kernel_rfl) rfl ⟨hS425.cell 0 rfl 0 rfl, trivial⟩ ?_
 have hS1076 : St NoS w w424 [rowR enc_Tile A_p0 c_p0 p0] [rowO 88 encN_Row none 0 (tag h0 ([] : List Row)), blk g420 (.cells #[(.func (.func 82) #[] #[(pt g402), (pt g406), (pt g398), (pt g414), (pt g420)])] 115 (0, 0)), blk g414 (.cells #[(.slice (some ⟨g411, 0, none⟩) (List.replicate p1.toNat (0 : Int)).length p1.toNat)] 36 (0, 0)), rowO 3 encInt (some ⟨g411, 0, none⟩) p1.toNat (List.replicate p1.toNat (0 : Int)), blk g406 (.cells #[(.slice none 0 0)] 82 (0, 0)), blk g402 (.cells #[(iv p1)] 3 (0, 0)), blk g398 (.cells #[(.slice A_p0 p0.length c_p0)] 22 (0, 0))] := hS425.nilrow 88 encN_Row
 have hS1077 := hS1076.poolNil subN_Row h0
 obtain ⟨t1078, ht1079, hf⟩ := bind_some hf
 refine WL.call (some 12) 82 #[(iv 0), (pt g402), (pt g406), (pt g398), (pt g414), (pt g420)] (fun fb => by kernel_rfl) (rows_All_1_calls _ 0 p1 ([] : List Row) p0 (List.replicate p1.toNat (0 : Int)) g402 g406 none 0 h0 g398 A_p0 c_p0 g414 (some ⟨g411, 0, none⟩) p1.toNat g420 t1078 _ (hS1077.owT [5, 1, 0, 3, 4] 6 (by decide)) (hS1077.owT [5, 1, 0, 3, 4] 7 (by decide)) (hS1077.rdT [5, 1, 0, 3, 4] 0) (hS1077.owT [5, 1, 0, 3, 4] 2 (by decide)) (hS1077.io [5, 1, 0, 3, 4] (by decide)) ht1079) (fun v w1080 hR1081 => ?_)
 obtain ⟨A1083, c1084, H1085, A1086, c1087, rfl, hk_⟩ := hR1081
 have hS1082 : St NoS w w1080 [rowR enc_Tile A_p0 c_p0 p0] [blk g406 (.cells #[(.slice A1083 t1078.1.length c1084)] 82 (0, 0)), rowO 88 encN_Row A1083 c1084 (tag H1085 t1078.1), poolO [nestO subN_Row H1085 t1078.1], blk g414 (.cells #[(.slice A1086 t1078.2.length c1087)] 36 (0, 0)), rowO 3 encInt A1086 c1087 t1078.2, blk g420 (.cells #[(.func (.func 82) #[] #[(pt g402), (pt g406), (pt g398), (pt g414), (pt g420)])] 115 (0, 0)), blk g402 (.cells #[(iv p1)] 3 (0, 0)), blk g398 (.cells #[(.slice A_p0 p0.length c_p0)] 22 (0, 0))] := hS1077.call hk_ [5, 1, 0, 3, 4] [2, 6, 7] (fun g hg => fpL_sel g hg) (by decide) (by decide)
 refine ⟨trivial, ?_⟩
 refine WL.done rfl ?_
 refine WX.next ?_
 refine WC.seq ?_
 refine WC.region ?_
 refine seg 2 [.v (.slice A1083 t1078.1.length c1084)] [4] [(4, (.slice A1083 t1078.1.length c1084))] [.cell ⟨g406, 0, none⟩ (.slice A1083 t1078.1.length c1084)] (fun fb => by kernel_rfl) rfl ⟨hS1082.cell 0 rfl 0 rfl, trivial⟩ ?_
 refine WL.done rfl ?_
 refine WX.next ?_
 refine WC.ret ?_
 injection hf with hf
 subst hf
 exact WX.ret_ [] (.slice A1083 t1078.1.length c1084) [] (fun fb => by kernel_rfl) trivial ⟨_, rfl, A1083, c1084, H1085, rfl, (hS1082.sub [1, 2] (by decide)).noR⟩
theorem fill_begin_calls (k : Nat) (p0 : List Tile) (p1 : Int) (p2 : Int) (p3 : Edges) (A_p0 : Option Addr) (c_p0 : Nat) (A_p3_North : Option Addr) (c_p3_North : Nat) (A_p3_East : Option Addr) (c_p3_East : Nat) (A_p3_South : Option Addr) (c_p3_South : Nat) (A_p3_West : Option Addr) (c_p3_West : Nat) (r : (Option Job) × Int) (w : World) (hR0 : RO NoS w (rowR enc_Tile A_p0 c_p0 p0)) (hR1 : RO NoS w (rowR encInt A_p3_North c_p3_North p3.North)) (hR2 : RO NoS w (rowR encInt A_p3_East c_p3_East p3.East)) (hR3 : RO NoS w (rowR encInt A_p3_South c_p3_South p3.South)) (hR4 : RO NoS w (rowR encInt A_p3_West c_p3_West p3.West)) (hf : fill_begin k p0 p1 p2 p3 = some r) :
  CallsR Try.prog 54 #[(.slice A_p0 p0.length c_p0), (iv p1), (iv p2), (.agg #[(.slice A_p3_North p3.North.length c_p3_North), (.slice A_p3_East p3.East.length c_p3_East), (.slice A_p3_South p3.South.length c_p3_South), (.slice A_p3_West p3.West.length c_p3_West)])] w (fun v w' => ∃ (g1_ : Nat), ∃ (A2_ : Option Addr), ∃ (c2_ : Nat), ∃ (h2_ : Nat → HF), v = (.tuple #[(optP r.1 g1_), (iv r.2)]) ∧ optS r.1 (Keeps NoS w w') (fun y_ => St NoS w w' [] [blk g1_ (.cells #[(.slice A2_ y_.rows.length c2_), (iv y_.width), (iv y_.height), (.slice A_p3_North p3.North.length c_p3_North), (.slice A_p3_East p3.East.length c_p3_East), (.slice A_p3_South p3.South.length c_p3_South), (.slice A_p3_West p3.West.length c_p3_West)] 84 (0, 0)), rowO 88 encN_Row A2_ c2_ (tag h2_ y_.rows), poolO [nestO subN_Row h2_ y_.rows]])) := by
 have hS : St NoS w w [rowR enc_Tile A_p0 c_p0 p0, rowR encInt A_p3_North c_p3_North p3.North, rowR encInt A_p3_East c_p3_East p3.East, rowR encInt A_p3_South c_p3_South p3.South, rowR encInt A_p3_West c_p3_West p3.West] [] := St.init (ro_cons hR0 (ro_cons hR1 (ro_cons hR2 (ro_cons hR3 (ro_cons hR4 (ro_nil _ _))))))
 refine enter 76 Try.func54 rfl Try.ntmps54 rfl ?_
 unfold fill_begin at hf
 refine WC.seq ?_
 refine WC.region ?_
 refine WL.new hS 7 [] (fun g => (.pointer (some ⟨g, 0, none⟩))) (.cells #[(.slice A_p3_North p3.North.length c_p3_North), (.slice A_p3_East p3.East.length c_p3_East), (.slice A_p3_South p3.South.length c_p3_South), (.slice A_p3_West p3.West.length c_p3_West)] 57 (0, 0)) [] (fun fb g => by kernel_rfl) trivial (fun g1114 w1115 hS1116 => ?_)
 refine ⟨trivial, ?_⟩
 refine seg 3 [] [0, 1, 2, 7] [(0, (.slice A_p0 p0.length c_p0)), (1, (iv p1)), (2, (iv p2)), (7, (pt g1114))] [] (fun fb => by kernel_rfl) rfl trivial ?_
 refine WL.done rfl ?_
 refine WX.next ?_
 refine WC.seq ?_
 refine WC.seq ?_
 refine WC.region ?_
 refine seg 1 [] [0, 1, 2, 7, 12] [(0, (.slice A_p0 p0.length c_p0)), (1, (iv p1)), (2, (iv p2)), (7, (pt g1114)), (12, (.slice A_p0 p0.length c_p0))] [] (fun fb => by kernel_rfl) rfl trivial ?_
 obtain ⟨t1118, ht1119, hf⟩ := bind_some hf
 refine WL.call (some 13) 38 #[(.slice A_p0 p0.length c_p0)] (fun fb => by kernel_rfl) (tile_Valid_calls _ p0 A_p0 c_p0 t1118 _ (hS1116.rd 0) ht1119) (fun v w1120 hR1121 => ?_)
 obtain ⟨rfl, hk_⟩ := hR1121
 have hS1122 := hS1116.keepN hk_
 refine ⟨trivial, ?_⟩
 refine seg 3 [] [0, 1, 2, 7, 14] [(0, (.slice A_p0 p0.length c_p0)), (1, (iv p1)), (2, (iv p2)), (7, (pt g1114)), (14, (.bool (!t1118)))] [] (fun fb => by kernel_rfl) rfl trivial ?_
 refine WL.done rfl ?_
 refine WX.next ?_
 rcases br_some hf with ⟨h1123, hf⟩ | ⟨h1123, hf⟩
 ·refine WC.condT2 (fun fb => by kernel_rfl) h1123 ?_
  refine WC.seq ?_
  refine WC.region ?_
  refine seg 2 [] [8, 9] [(8, (.pointer none)), (9, (iv 1))] [] (fun fb => by kernel_rfl) rfl trivial ?_
  refine WL.done rfl ?_
  refine WX.next ?_
  refine WC.ret ?_
  injection hf with hf
  subst hf
  exact WX.thenR (WX.ret_ [] (.tuple #[(.pointer none), (iv 1)]) [] (fun fb => by kernel_rfl) trivial ⟨_, rfl, 0, none, 0, h0, rfl, hS1122.keep⟩)
 refine WC.condF2 (fun fb => by kernel_rfl) h1123 ?_
 refine WC.skip ?_
 refine WX.next ?_
 refine WC.seq ?_
 refine WC.seq ?_
 refine WC.region ?_
 refine seg 3 [] [0, 1, 2, 7, 17] [(0, (.slice A_p0 p0.length c_p0)), (1, (iv p1)), (2, (iv p2)), (7, (pt g1114)), (17, (.bool (decide (p1 < 1))))] [] (fun fb => by kernel_rfl) rfl trivial ?_
 refine WL.cutV (T := Bool) 6 (fun t => [(20, (.bool t)), (0, (.slice A_p0 p0.length c_p0)), (1, (iv p1)), (2, (iv p2)), (7, (pt g1114))]) (fun t => ((decide (p1 < 1)) || (decide (p1 > 8))) = t) (fun K => ?_) ?_
 ·
  rcases Bool.eq_false_or_eq_true (decide (p1 < 1)) with h1124 | h1124
  ·
   refine WL.setB 17 h1124 rfl ?_
   refine seg 6 [] [0, 1, 2, 7, 20] [(0, (.slice A_p0 p0.length c_p0)), (1, (iv p1)), (2, (iv p2)), (7, (pt g1114)), (20, (.bool true))] [] (fun fb => by kernel_rfl) rfl trivial ?_
   exact WL.toV K true [20, 0, 1, 2, 7] rfl (by first | (rw [h1124]; done) | (rw [h1124]; rfl))
  refine WL.setB 17 h1124 rfl ?_
  refine seg 6 [] [0, 1, 2, 7, 20] [(0, (.slice A_p0 p0.length c_p0)), (1, (iv p1)), (2, (iv p2)), (7, (pt g1114)), (20, (.bool (decide (p1 > 8))))] [] (fun fb => by kernel_rfl) rfl trivial ?_
  exact WL.toV K (decide (p1 > 8)) [20, 0, 1, 2, 7] rfl (by first | (rw [h1124]; done) | (rw [h1124]; rfl))
 rintro b1125 rfl
 refine seg 7 [] [0, 1, 2, 7, 21] [(0, (.slice A_p0 p0.length c_p0)), (1, (iv p1)), (2, (iv p2)), (7, (pt g1114)), (21, (.bool ((decide (p1 < 1)) || (decide (p1 > 8)))))] [] (fun fb => by kernel_rfl) rfl trivial ?_
 refine WL.cutV (T := Bool) 10 (fun t => [(24, (.bool t)), (0, (.slice A_p0 p0.length c_p0)), (1, (iv p1)), (2, (iv p2)), (7, (pt g1114))]) (fun t => (((decide (p1 < 1)) || (decide (p1 > 8))) || (decide (p2 < 1))) = t) (fun K => ?_) ?_
 ·
  rcases Bool.eq_false_or_eq_true ((decide (p1 < 1)) || (decide (p1 > 8))) with h1126 | h1126
  ·
   refine WL.setB 21 h1126 rfl ?_
   refine seg 10 [] [0, 1, 2, 7, 24] [(0, (.slice A_p0 p0.length c_p0)), (1, (iv p1)), (2, (iv p2)), (7, (pt g1114)), (24, (.bool true))] [] (fun fb => by kernel_rfl) rfl trivial ?_
   exact WL.toV K true [24, 0, 1, 2, 7] rfl (by first | (rw [h1126]; done) | (rw [h1126]; rfl))
  refine WL.setB 21 h1126 rfl ?_
  refine seg 10 [] [0, 1, 2, 7, 24] [(0, (.slice A_p0 p0.length c_p0)), (1, (iv p1)), (2, (iv p2)), (7, (pt g1114)), (24, (.bool (decide (p2 < 1))))] [] (fun fb => by kernel_rfl) rfl trivial ?_
  exact WL.toV K (decide (p2 < 1)) [24, 0, 1, 2, 7] rfl (by first | (rw [h1126]; done) | (rw [h1126]; rfl))
 rintro b1127 rfl
 refine seg 11 [] [0, 1, 2, 7, 25] [(0, (.slice A_p0 p0.length c_p0)), (1, (iv p1)), (2, (iv p2)), (7, (pt g1114)), (25, (.bool (((decide (p1 < 1)) || (decide (p1 > 8))) || (decide (p2 < 1)))))] [] (fun fb => by kernel_rfl) rfl trivial ?_
 refine WL.cutV (T := Bool) 14 (fun t => [(28, (.bool t)), (0, (.slice A_p0 p0.length c_p0)), (1, (iv p1)), (2, (iv p2)), (7, (pt g1114))]) (fun t => ((((decide (p1 < 1)) || (decide (p1 > 8))) || (decide (p2 < 1))) || (decide (p2 > 60))) = t) (fun K => ?_) ?_
 ·
  rcases Bool.eq_false_or_eq_true (((decide (p1 < 1)) || (decide (p1 > 8))) || (decide (p2 < 1))) with h1128 | h1128
  ·
   refine WL.setB 25 h1128 rfl ?_
   refine seg 14 [] [0, 1, 2, 7, 28] [(0, (.slice A_p0 p0.length c_p0)), (1, (iv p1)), (2, (iv p2)), (7, (pt g1114)), (28, (.bool true))] [] (fun fb => by kernel_rfl) rfl trivial ?_
   exact WL.toV K true [28, 0, 1, 2, 7] rfl (by first | (rw [h1128]; done) | (rw [h1128]; rfl))
  refine WL.setB 25 h1128 rfl ?_
  refine seg 14 [] [0, 1, 2, 7, 28] [(0, (.slice A_p0 p0.length c_p0)), (1, (iv p1)), (2, (iv p2)), (7, (pt g1114)), (28, (.bool (decide (p2 > 60))))] [] (fun fb => by kernel_rfl) rfl trivial ?_
  exact WL.toV K (decide (p2 > 60)) [28, 0, 1, 2, 7] rfl (by first | (rw [h1128]; done) | (rw [h1128]; rfl))
 rintro b1129 rfl
 refine WL.done rfl ?_
 refine WX.next ?_
 rcases br_some hf with ⟨h1130, hf⟩ | ⟨h1130, hf⟩
 ·refine WC.condT2 (fun fb => by kernel_rfl) h1130 ?_
  refine WC.seq ?_
  refine WC.region ?_
  refine seg 2 [] [8, 9] [(8, (.pointer none)), (9, (iv 2))] [] (fun fb => by kernel_rfl) rfl trivial ?_
  refine WL.done rfl ?_
  refine WX.next ?_
  refine WC.ret ?_
  injection hf with hf
  subst hf
  exact WX.thenR (WX.ret_ [] (.tuple #[(.pointer none), (iv 2)]) [] (fun fb => by kernel_rfl) trivial ⟨_, rfl, 0, none, 0, h0, rfl, hS1122.keep⟩)
 refine WC.condF2 (fun fb => by kernel_rfl) h1130 ?_
 refine WC.skip ?_
 refine WX.next ?_
 refine WC.seq ?_
 refine WC.seq ?_
 refine WC.region ?_
 refine seg 16 [.v (.slice A_p3_North p3.North.length c_p3_North), .v (.slice A_p3_South p3.South.length c_p3_South), .v (.slice A_p3_East p3.East.length c_p3_East), .v (.slice A_p3_West p3.West.length c_p3_West)] [0, 1, 2, 7, 32, 36, 40, 44] [(0, (.slice A_p0 p0.length c_p0)), (1, (iv p1)), (2, (iv p2)), (7, (pt g1114)), (32, (.agg #[(.slice A_p3_North p3.North.length c_p3_North), (iv p1)])), (36, (.agg #[(.slice A_p3_South p3.South.length c_p3_South), (iv p1)])), (40, (.agg #[(.slice A_p3_East p3.East.length c_p3_East), (iv p2)])), (44, (.agg #[(.slice A_p3_West p3.West.length c_p3_West), (iv p2)]))] [.cell ⟨g1114, 0, none⟩ (.slice A_p3_North p3.North.length c_p3_North), .cell ⟨g1114, 2, none⟩ (.slice A_p3_South p3.South.length c_p3_South), .cell ⟨g1114, 1, none⟩ (.slice A_p3_East p3.East.length c_p3_East), .cell ⟨g1114, 3, none⟩ (.slice A_p3_West p3.West.length c_p3_West)] (fun fb => by kernel_rfl) rfl ⟨hS1122.cell 0 rfl 0 rfl, hS1122.cell 0 rfl 2 rfl, hS1122.cell 0 rfl 1 rfl, hS1122.cell 0 rfl 3 rfl, trivial⟩ ?_
 refine WL.new hS1122 45 [] (fun g => (.slice (some ⟨g, 0, none⟩) 4 4)) (.cells #[(.slice A_p3_North p3.North.length c_p3_North), (iv p1), (.slice A_p3_South p3.South.length c_p3_South), (iv p1), (.slice A_p3_East p3.East.length c_p3_East), (iv p2), (.slice A_p3_West p3.West.length c_p3_West), (iv p2)] 108 (0, 0)) [] (fun fb g => by kernel_rfl) trivial (fun g1131 w1132 hS1133 => ?_)
 refine ⟨trivial, ?_⟩
 have hS1136 : St NoS w w1132 [nestO subN_S108 (hlN [(hd1 A_p3_North c_p3_North), (hd1 A_p3_South c_p3_South), (hd1 A_p3_East c_p3_East), (hd1 A_p3_West c_p3_West)]) [(S108.mk p3.North p1), (S108.mk p3.South p1), (S108.mk p3.East p2), (S108.mk p3.West p2)], rowR enc_Tile A_p0 c_p0 p0, rowR encInt A_p3_North c_p3_North p3.North, rowR encInt A_p3_East c_p3_East p3.East, rowR encInt A_p3_South c_p3_South p3.South, rowR encInt A_p3_West c_p3_West p3.West] [blk g1131 (.cells #[(.slice A_p3_North p3.North.length c_p3_North), (iv p1), (.slice A_p3_South p3.South.length c_p3_South), (iv p1), (.slice A_p3_East p3.East.length c_p3_East), (iv p2), (.slice A_p3_West p3.West.length c_p3_West), (iv p2)] 108 (0, 0)), blk g1114 (.cells #[(.slice A_p3_North p3.North.length c_p3_North), (.slice A_p3_East p3.East.length c_p3_East), (.slice A_p3_South p3.South.length c_p3_South), (.slice A_p3_West p3.West.length c_p3_West)] 57 (0, 0))] := hS1133.addR _ (nestO_cons (hS1133.rdL 1) (nestO_cons (hS1133.rdL 3) (nestO_cons (hS1133.rdL 2) (nestO_cons (hS1133.rdL 4) (nestO_nil _ _ _ _)))))
 have hS1135 : St NoS w w1132 [nestO subN_S108 (hlN [(hd1 A_p3_North c_p3_North), (hd1 A_p3_South c_p3_South), (hd1 A_p3_East c_p3_East), (hd1 A_p3_West c_p3_West)]) [(S108.mk p3.North p1), (S108.mk p3.South p1), (S108.mk p3.East p2), (S108.mk p3.West p2)], rowR enc_Tile A_p0 c_p0 p0, rowR encInt A_p3_North c_p3_North p3.North, rowR encInt A_p3_East c_p3_East p3.East, rowR encInt A_p3_South c_p3_South p3.South, rowR encInt A_p3_West c_p3_West p3.West] [rowO 108 encN_S108 (some ⟨g1131, 0, none⟩) 4 (tag (hlN [(hd1 A_p3_North c_p3_North), (hd1 A_p3_South c_p3_South), (hd1 A_p3_East c_p3_East), (hd1 A_p3_West c_p3_West)]) [(S108.mk p3.North p1), (S108.mk p3.South p1), (S108.mk p3.East p2), (S108.mk p3.West p2)]), blk g1114 (.cells #[(.slice A_p3_North p3.North.length c_p3_North), (.slice A_p3_East p3.East.length c_p3_East), (.slice A_p3_South p3.South.length c_p3_South), (.slice A_p3_West p3.West.length c_p3_West)] 57 (0, 0))] := hS1136.map1 0 _ (fun h => rowO.ofBlk h rfl (Nat.le_of_ble_eq_true (by kernel_rfl))) (fun _ h => by obtain ⟨_, h1, h2⟩ := h; injection h1 with h1; subst h1; exact h2) [1] (by decide) (by decide)
 refine seg 19 [] [0, 1, 2, 7, 45, 46, 47] [(0, (.slice A_p0 p0.length c_p0)), (1, (iv p1)), (2, (iv p2)), (7, (pt g1114)), (45, (.slice (some ⟨g1131, 0, none⟩) [(S108.mk p3.North p1), (S108.mk p3.South p1), (S108.mk p3.East p2), (S108.mk p3.West p2)].length 4)), (46, (iv ([(S108.mk p3.North p1), (S108.mk p3.South p1), (S108.mk p3.East p2), (S108.mk p3.West p2)].length : Int))), (47, (iv 0))] [] (fun fb => by kernel_rfl) rfl trivial ?_
 refine WL.done rfl ?_
 refine WX.next ?_
 obtain ⟨x1161, hx1162, hf⟩ := bind_some hf
 refine WC.cutN (T := Unit) (fun t => [(0, (.slice A_p0 p0.length c_p0)), (1, (iv p1)), (2, (iv p2)), (7, (pt g1114))]) (fun t w1 => St NoS w w1 [nestO subN_S108 (hlN [(hd1 A_p3_North c_p3_North), (hd1 A_p3_South c_p3_South), (hd1 A_p3_East c_p3_East), (hd1 A_p3_West c_p3_West)]) [(S108.mk p3.North p1), (S108.mk p3.South p1), (S108.mk p3.East p2), (S108.mk p3.West p2)], rowR enc_Tile A_p0 c_p0 p0, rowR encInt A_p3_North c_p3_North p3.North, rowR encInt A_p3_East c_p3_East p3.East, rowR encInt A_p3_South c_p3_South p3.South, rowR encInt A_p3_West c_p3_West p3.West] [blk g1114 (.cells #[(.slice A_p3_North p3.North.length c_p3_North), (.slice A_p3_East p3.East.length c_p3_East), (.slice A_p3_South p3.South.length c_p3_South), (.slice A_p3_West p3.West.length c_p3_West)] 57 (0, 0))] ∧ x1161 = .inr t) (fun Kx1161 => ?_) ?_
 ·
  refine WC.block ?_
  refine WC.loop (T := Int) (fun t => [(0, (.slice A_p0 p0.length c_p0)), (1, (iv p1)), (2, (iv p2)), (7, (pt g1114)), (45, (.slice (some ⟨g1131, 0, none⟩) [(S108.mk p3.North p1), (S108.mk p3.South p1), (S108.mk p3.East p2), (S108.mk p3.West p2)].length 4)), (46, (iv ([(S108.mk p3.North p1), (S108.mk p3.South p1), (S108.mk p3.East p2), (S108.mk p3.West p2)].length : Int))), (47, (iv t))]) (fun n t w1 => St NoS w w1 [nestO subN_S108 (hlN [(hd1 A_p3_North c_p3_North), (hd1 A_p3_South c_p3_South), (hd1 A_p3_East c_p3_East), (hd1 A_p3_West c_p3_West)]) [(S108.mk p3.North p1), (S108.mk p3.South p1), (S108.mk p3.East p2), (S108.mk p3.West p2)], rowR enc_Tile A_p0 c_p0 p0, rowR encInt A_p3_North c_p3_North p3.North, rowR encInt A_p3_East c_p3_East p3.East, rowR encInt A_p3_South c_p3_South p3.South, rowR encInt A_p3_West c_p3_West p3.West] [blk g1114 (.cells #[(.slice A_p3_North p3.North.length c_p3_North), (.slice A_p3_East p3.East.length c_p3_East), (.slice A_p3_South p3.South.length c_p3_South), (.slice A_p3_West p3.West.length c_p3_West)] 57 (0, 0)), rowO 108 encN_S108 (some ⟨g1131, 0, none⟩) 4 (tag (hlN [(hd1 A_p3_North c_p3_North), (hd1 A_p3_South c_p3_South), (hd1 A_p3_East c_p3_East), (hd1 A_p3_West c_p3_West)]) [(S108.mk p3.North p1), (S108.mk p3.South p1), (S108.mk p3.East p2), (S108.mk p3.West p2)])] ∧ fill_begin.l0 n t p1 p2 p3 = some x1161) k 0 [0, 1, 2, 7, 45, 46, 47] rfl ⟨(hS1135.subR [0, 1, 2, 3, 4, 5]).sub [1, 0] (by decide), hx1162⟩ ?_
  rintro k1163 x1160 w1164 ⟨hS1165, hl1166⟩
  cases k1163 with
  | zero => rw [fill_begin.l0] at hl1166; cases hl1166
  | succ k1163 =>
   rw [fill_begin.l0] at hl1166
   refine WC.seq ?_
   refine WC.region ?_
   refine seg 1 [] [0, 1, 2, 7, 45, 46, 47, 48] [(0, (.slice A_p0 p0.length c_p0)), (1, (iv p1)), (2, (iv p2)), (7, (pt g1114)), (45, (.slice (some ⟨g1131, 0, none⟩) [(S108.mk p3.North p1), (S108.mk p3.South p1), (S108.mk p3.East p2), (S108.mk p3.West p2)].length 4)), (46, (iv ([(S108.mk p3.North p1), (S108.mk p3.South p1), (S108.mk p3.East p2), (S108.mk p3.West p2)].length : Int))), (47, (iv x1160)), (48, (.bool (decide (x1160 < ([(S108.mk p3.North p1), (S108.mk p3.South p1), (S108.mk p3.East p2), (S108.mk p3.West p2)].length : Int)))))] [] (fun fb => by kernel_rfl) rfl trivial ?_
   refine WL.done rfl ?_
   refine WX.next ?_
   refine WC.seq ?_
   rcases br_some hl1166 with ⟨h1167, hl1166⟩ | ⟨h1167, hl1166⟩
   ·refine WC.condT2 (fun fb => by kernel_rfl) h1167 ?_
    refine WC.skip ?_
    refine WX.next ?_
    refine WC.seq ?_
    refine WC.block ?_
    refine WC.seq ?_
    refine WC.region ?_
    obtain ⟨h1168, hl1166⟩ := as_some hl1166
    refine seg 2 [.v (.slice (((hlN [(hd1 A_p3_North c_p3_North), (hd1 A_p3_South c_p3_South), (hd1 A_p3_East c_p3_East), (hd1 A_p3_West c_p3_West)]) x1160.toNat 0).1) ((rdD [(S108.mk p3.North p1), (S108.mk p3.South p1), (S108.mk p3.East p2), (S108.mk p3.West p2)] x1160 z_S108).side).length (((hlN [(hd1 A_p3_North c_p3_North), (hd1 A_p3_South c_p3_South), (hd1 A_p3_East c_p3_East), (hd1 A_p3_West c_p3_West)]) x1160.toNat 0).2)), .v (iv ((rdD [(S108.mk p3.North p1), (S108.mk p3.South p1), (S108.mk p3.East p2), (S108.mk p3.West p2)] x1160 z_S108).n))] [0, 1, 2, 7, 45, 46, 47, 50] [(0, (.slice A_p0 p0.length c_p0)), (1, (iv p1)), (2, (iv p2)), (7, (pt g1114)), (45, (.slice (some ⟨g1131, 0, none⟩) [(S108.mk p3.North p1), (S108.mk p3.South p1), (S108.mk p3.East p2), (S108.mk p3.West p2)].length 4)), (46, (iv ([(S108.mk p3.North p1), (S108.mk p3.South p1), (S108.mk p3.East p2), (S108.mk p3.West p2)].length : Int))), (47, (iv x1160)), (50, (.agg #[(.slice (((hlN [(hd1 A_p3_North c_p3_North), (hd1 A_p3_South c_p3_South), (hd1 A_p3_East c_p3_East), (hd1 A_p3_West c_p3_West)]) x1160.toNat 0).1) ((rdD [(S108.mk p3.North p1), (S108.mk p3.South p1), (S108.mk p3.East p2), (S108.mk p3.West p2)] x1160 z_S108).side).length (((hlN [(hd1 A_p3_North c_p3_North), (hd1 A_p3_South c_p3_South), (hd1 A_p3_East c_p3_East), (hd1 A_p3_West c_p3_West)]) x1160.toNat 0).2)), (iv ((rdD [(S108.mk p3.North p1), (S108.mk p3.South p1), (S108.mk p3.East p2), (S108.mk p3.West p2)] x1160 z_S108).n))]))] [.idx (some ⟨g1131, 0, none⟩) x1160 [(S108.mk p3.North p1), (S108.mk p3.South p1), (S108.mk p3.East p2), (S108.mk p3.West p2)].length, .cell ((adr (some ⟨g1131, 0, none⟩)).add ((x1160).toNat * 2)) (.slice (((hlN [(hd1 A_p3_North c_p3_North), (hd1 A_p3_South c_p3_South), (hd1 A_p3_East c_p3_East), (hd1 A_p3_West c_p3_West)]) x1160.toNat 0).1) ((rdD [(S108.mk p3.North p1), (S108.mk p3.South p1), (S108.mk p3.East p2), (S108.mk p3.West p2)] x1160 z_S108).side).length (((hlN [(hd1 A_p3_North c_p3_North), (hd1 A_p3_South c_p3_South), (hd1 A_p3_East c_p3_East), (hd1 A_p3_West c_p3_West)]) x1160.toNat 0).2)), .cell (((adr (some ⟨g1131, 0, none⟩)).add ((x1160).toNat * 2)).add 1) (iv ((rdD [(S108.mk p3.North p1), (S108.mk p3.South p1), (S108.mk p3.East p2), (S108.mk p3.West p2)] x1160 z_S108).n))] (fun fb => by kernel_rfl) rfl ⟨nrow_adr (rowO.rd (hS1165.own 1).1) h1168.1 h1168.2, nrow_cell (rowO.rd (hS1165.own 1).1) z_S108 h1168.1 h1168.2 0 rfl, nrow_cell (rowO.rd (hS1165.own 1).1) z_S108 h1168.1 h1168.2 1 rfl, trivial⟩ ?_
    refine WL.new hS1165 11 [] (fun g => (.pointer (some ⟨g, 0, none⟩))) (.cells #[(.slice none 0 0), (iv 0)] 108 (0, 0)) [] (fun fb g => by kernel_rfl) trivial (fun g1169 w1170 hS1171 => ?_)
    refine ⟨trivial, ?_⟩
    refine WL.store hS1171 0 rfl [(0, (.slice (((hlN [(hd1 A_p3_North c_p3_North), (hd1 A_p3_South c_p3_South), (hd1 A_p3_East c_p3_East), (hd1 A_p3_West c_p3_West)]) x1160.toNat 0).1) ((rdD [(S108.mk p3.North p1), (S108.mk p3.South p1), (S108.mk p3.East p2), (S108.mk p3.West p2)] x1160 z_S108).side).length (((hlN [(hd1 A_p3_North c_p3_North), (hd1 A_p3_South c_p3_South), (hd1 A_p3_East c_p3_East), (hd1 A_p3_West c_p3_West)]) x1160.toNat 0).2))), (1, (iv ((rdD [(S108.mk p3.North p1), (S108.mk p3.South p1), (S108.mk p3.East p2), (S108.mk p3.West p2)] x1160 z_S108).n)))] #[(.slice (((hlN [(hd1 A_p3_North c_p3_North), (hd1 A_p3_South c_p3_South), (hd1 A_p3_East c_p3_East), (hd1 A_p3_West c_p3_West)]) x1160.toNat 0).1) ((rdD [(S108.mk p3.North p1), (S108.mk p3.South p1), (S108.mk p3.East p2), (S108.mk p3.West p2)] x1160 z_S108).side).length (((hlN [(hd1 A_p3_North c_p3_North), (hd1 A_p3_South c_p3_South), (hd1 A_p3_East c_p3_East), (hd1 A_p3_West c_p3_West)]) x1160.toNat 0).2)), (iv ((rdD [(S108.mk p3.North p1), (S108.mk p3.South p1), (S108.mk p3.East p2), (S108.mk p3.West p2)] x1160 z_S108).n))] (fun fb => by kernel_rfl) (by kernel_rfl) rfl [1, 2] (by decide) (by decide) (fun w1173 hS1174 => ?_)
    refine ⟨trivial, ?_⟩
    refine WL.done rfl ?_
    refine WX.next ?_
    refine WC.seq ?_
    refine WC.region ?_
    refine seg 5 [.v (.slice (((hlN [(hd1 A_p3_North c_p3_North), (hd1 A_p3_South c_p3_South), (hd1 A_p3_East c_p3_East), (hd1 A_p3_West c_p3_West)]) x1160.toNat 0).1) ((rdD [(S108.mk p3.North p1), (S108.mk p3.South p1), (S108.mk p3.East p2), (S108.mk p3.West p2)] x1160 z_S108).side).length (((hlN [(hd1 A_p3_North c_p3_North), (hd1 A_p3_South c_p3_South), (hd1 A_p3_East c_p3_East), (hd1 A_p3_West c_p3_West)]) x1160.toNat 0).2))] [0, 1, 2, 7, 11, 45, 46, 47, 55] [(0, (.slice A_p0 p0.length c_p0)), (1, (iv p1)), (2, (iv p2)), (7, (pt g1114)), (11, (pt g1169)), (45, (.slice (some ⟨g1131, 0, none⟩) [(S108.mk p3.North p1), (S108.mk p3.South p1), (S108.mk p3.East p2), (S108.mk p3.West p2)].length 4)), (46, (iv ([(S108.mk p3.North p1), (S108.mk p3.South p1), (S108.mk p3.East p2), (S108.mk p3.West p2)].length : Int))), (47, (iv x1160)), (55, (.bool ((((rdD [(S108.mk p3.North p1), (S108.mk p3.South p1), (S108.mk p3.East p2), (S108.mk p3.West p2)] x1160 z_S108).side).length : Int) != 0)))] [.cell ⟨g1169, 0, none⟩ (.slice (((hlN [(hd1 A_p3_North c_p3_North), (hd1 A_p3_South c_p3_South), (hd1 A_p3_East c_p3_East), (hd1 A_p3_West c_p3_West)]) x1160.toNat 0).1) ((rdD [(S108.mk p3.North p1), (S108.mk p3.South p1), (S108.mk p3.East p2), (S108.mk p3.West p2)] x1160 z_S108).side).length (((hlN [(hd1 A_p3_North c_p3_North), (hd1 A_p3_South c_p3_South), (hd1 A_p3_East c_p3_East), (hd1 A_p3_West c_p3_West)]) x1160.toNat 0).2))] (fun fb => by kernel_rfl) rfl ⟨hS1174.cell 0 rfl 0 rfl, trivial⟩ ?_
    refine WL.cutV (T := Bool) 12 (fun t => [(62, (.bool t)), (0, (.slice A_p0 p0.length c_p0)), (1, (iv p1)), (2, (iv p2)), (7, (pt g1114)), (45, (.slice (some ⟨g1131, 0, none⟩) [(S108.mk p3.North p1), (S108.mk p3.South p1), (S108.mk p3.East p2), (S108.mk p3.West p2)].length 4)), (46, (iv ([(S108.mk p3.North p1), (S108.mk p3.South p1), (S108.mk p3.East p2), (S108.mk p3.West p2)].length : Int))), (47, (iv x1160))]) (fun t => (((((rdD [(S108.mk p3.North p1), (S108.mk p3.South p1), (S108.mk p3.East p2), (S108.mk p3.West p2)] x1160 z_S108).side).length : Int) != 0) && ((((rdD [(S108.mk p3.North p1), (S108.mk p3.South p1), (S108.mk p3.East p2), (S108.mk p3.West p2)] x1160 z_S108).side).length : Int) != ((rdD [(S108.mk p3.North p1), (S108.mk p3.South p1), (S108.mk p3.East p2), (S108.mk p3.West p2)] x1160 z_S108).n))) = t) (fun K => ?_) ?_
    ·
     rcases Bool.eq_false_or_eq_true ((((rdD [(S108.mk p3.North p1), (S108.mk p3.South p1), (S108.mk p3.East p2), (S108.mk p3.West p2)] x1160 z_S108).side).length : Int) != 0) with h1175 | h1175
     ·
      refine WL.setB 55 h1175 rfl ?_
      refine seg 12 [.v (.slice (((hlN [(hd1 A_p3_North c_p3_North), (hd1 A_p3_South c_p3_South), (hd1 A_p3_East c_p3_East), (hd1 A_p3_West c_p3_West)]) x1160.toNat 0).1) ((rdD [(S108.mk p3.North p1), (S108.mk p3.South p1), (S108.mk p3.East p2), (S108.mk p3.West p2)] x1160 z_S108).side).length (((hlN [(hd1 A_p3_North c_p3_North), (hd1 A_p3_South c_p3_South), (hd1 A_p3_East c_p3_East), (hd1 A_p3_West c_p3_West)]) x1160.toNat 0).2)), .v (iv ((rdD [(S108.mk p3.North p1), (S108.mk p3.South p1), (S108.mk p3.East p2), (S108.mk p3.West p2)] x1160 z_S108).n))] [0, 1, 2, 7, 45, 46, 47, 62] [(0, (.slice A_p0 p0.length c_p0)), (1, (iv p1)), (2, (iv p2)), (7, (pt g1114)), (45, (.slice (some ⟨g1131, 0, none⟩) [(S108.mk p3.North p1), (S108.mk p3.South p1), (S108.mk p3.East p2), (S108.mk p3.West p2)].length 4)), (46, (iv ([(S108.mk p3.North p1), (S108.mk p3.South p1), (S108.mk p3.East p2), (S108.mk p3.West p2)].length : Int))), (47, (iv x1160)), (62, (.bool ((((rdD [(S108.mk p3.North p1), (S108.mk p3.South p1), (S108.mk p3.East p2), (S108.mk p3.West p2)] x1160 z_S108).side).length : Int) != ((rdD [(S108.mk p3.North p1), (S108.mk p3.South p1), (S108.mk p3.East p2), (S108.mk p3.West p2)] x1160 z_S108).n))))] [.cell ⟨g1169, 0, none⟩ (.slice (((hlN [(hd1 A_p3_North c_p3_North), (hd1 A_p3_South c_p3_South), (hd1 A_p3_East c_p3_East), (hd1 A_p3_West c_p3_West)]) x1160.toNat 0).1) ((rdD [(S108.mk p3.North p1), (S108.mk p3.South p1), (S108.mk p3.East p2), (S108.mk p3.West p2)] x1160 z_S108).side).length (((hlN [(hd1 A_p3_North c_p3_North), (hd1 A_p3_South c_p3_South), (hd1 A_p3_East c_p3_East), (hd1 A_p3_West c_p3_West)]) x1160.toNat 0).2)), .cell ⟨g1169, 1, none⟩ (iv ((rdD [(S108.mk p3.North p1), (S108.mk p3.South p1), (S108.mk p3.East p2), (S108.mk p3.West p2)] x1160 z_S108).n))] (fun fb => by kernel_rfl) rfl ⟨hS1174.cell 0 rfl 0 rfl, hS1174.cell 0 rfl 1 rfl, trivial⟩ ?_
      exact WL.toV K ((((rdD [(S108.mk p3.North p1), (S108.mk p3.South p1), (S108.mk p3.East p2), (S108.mk p3.West p2)] x1160 z_S108).side).length : Int) != ((rdD [(S108.mk p3.North p1), (S108.mk p3.South p1), (S108.mk p3.East p2), (S108.mk p3.West p2)] x1160 z_S108).n)) [62, 0, 1, 2, 7, 45, 46, 47] rfl (by first | (rw [h1175]; done) | (rw [h1175]; rfl))
     refine WL.setB 55 h1175 rfl ?_
     refine seg 12 [] [0, 1, 2, 7, 45, 46, 47, 62] [(0, (.slice A_p0 p0.length c_p0)), (1, (iv p1)), (2, (iv p2)), (7, (pt g1114)), (45, (.slice (some ⟨g1131, 0, none⟩) [(S108.mk p3.North p1), (S108.mk p3.South p1), (S108.mk p3.East p2), (S108.mk p3.West p2)].length 4)), (46, (iv ([(S108.mk p3.North p1), (S108.mk p3.South p1), (S108.mk p3.East p2), (S108.mk p3.West p2)].length : Int))), (47, (iv x1160)), (62, (.bool false))] [] (fun fb => by kernel_rfl) rfl trivial ?_
     exact WL.toV K false [62, 0, 1, 2, 7, 45, 46, 47] rfl (by first | (rw [h1175]; done) | (rw [h1175]; rfl))
    rintro b1176 rfl
    refine WL.done rfl ?_
    refine WX.next ?_
    rcases br_some hl1166 with ⟨h1177, hl1166⟩ | ⟨h1177, hl1166⟩
    ·refine WC.condT2 (fun fb => by kernel_rfl) h1177 ?_
     refine WC.seq ?_
     refine WC.region ?_
     refine seg 2 [] [8, 9] [(8, (.pointer none)), (9, (iv 2))] [] (fun fb => by kernel_rfl) rfl trivial ?_
     refine WL.done rfl ?_
     refine WX.next ?_
     refine WC.ret ?_
     injection hl1166 with hl1166
     subst hl1166
     injection hf with hf
     subst hf
     exact WX.blockR (WX.thenR (WX.thenR (WX.blockR (WX.thenR (WX.ret_ [] (.tuple #[(.pointer none), (iv 2)]) [] (fun fb => by kernel_rfl) trivial ⟨_, rfl, 0, none, 0, h0, rfl, hS1174.keep⟩)))))
    refine WC.condF2 (fun fb => by kernel_rfl) h1177 ?_
    refine WC.skip ?_
    refine WX.blockN (WX.next ?_)
    refine WC.region ?_
    refine seg 2 [] [0, 1, 2, 7, 45, 46, 47] [(0, (.slice A_p0 p0.length c_p0)), (1, (iv p1)), (2, (iv p2)), (7, (pt g1114)), (45, (.slice (some ⟨g1131, 0, none⟩) [(S108.mk p3.North p1), (S108.mk p3.South p1), (S108.mk p3.East p2), (S108.mk p3.West p2)].length 4)), (46, (iv ([(S108.mk p3.North p1), (S108.mk p3.South p1), (S108.mk p3.East p2), (S108.mk p3.West p2)].length : Int))), (47, (iv (w64 (x1160 + 1))))] [] (fun fb => by kernel_rfl) rfl trivial ?_
    refine WL.done rfl ?_
    exact WX.again k1163 (Nat.lt_succ_self _) (w64 (x1160 + 1)) [0, 1, 2, 7, 45, 46, 47] rfl ⟨(hS1174.subR [0, 1, 2, 3, 4, 5]).sub [1, 2] (by decide), hl1166⟩
   refine WC.condF2 (fun fb => by kernel_rfl) h1167 ?_
   refine WC.exit ?_
   injection hl1166 with hl1166
   exact WX.thenX (WX.thenX (WX.blockHere (WX.to Kx1161 () [0, 1, 2, 7] rfl ⟨(hS1165.subR [0, 1, 2, 3, 4, 5]).sub [0] (by decide), hl1166.symm⟩)))
 rintro y1181 w1178 ⟨hS1179, hq1180⟩
 subst hq1180
 have hf := sum_inr hf
 refine WX.next ?_
 refine WC.seq ?_
 refine WC.seq ?_
 refine WC.region ?_
 refine seg 2 [] [0, 1, 2, 7, 64, 65] [(0, (.slice A_p0 p0.length c_p0)), (1, (iv p1)), (2, (iv p2)), (7, (pt g1114)), (64, (.slice A_p0 p0.length c_p0)), (65, (iv p1))] [] (fun fb => by kernel_rfl) rfl trivial ?_
 obtain ⟨t1183, ht1184, hf⟩ := bind_some hf
 refine WL.call (some 66) 45 #[(.slice A_p0 p0.length c_p0), (iv p1)] (fun fb => by kernel_rfl) (rows_Few_calls _ p0 p1 A_p0 c_p0 t1183 _ (hS1179.rd 1) ht1184) (fun v w1185 hR1186 => ?_)
 obtain ⟨rfl, hk_⟩ := hR1186
 have hS1187 := hS1179.keepN hk_
 refine ⟨trivial, ?_⟩
 refine seg 4 [] [0, 1, 2, 7, 67] [(0, (.slice A_p0 p0.length c_p0)), (1, (iv p1)), (2, (iv p2)), (7, (pt g1114)), (67, (.bool (!t1183)))] [] (fun fb => by kernel_rfl) rfl trivial ?_
 refine WL.done rfl ?_
 refine WX.next ?_
 rcases br_some hf with ⟨h1188, hf⟩ | ⟨h1188, hf⟩
 ·refine WC.condT2 (fun fb => by kernel_rfl) h1188 ?_
  refine WC.seq ?_
  refine WC.region ?_
  refine seg 2 [] [8, 9] [(8, (.pointer none)), (9, (iv 4))] [] (fun fb => by kernel_rfl) rfl trivial ?_
  refine WL.done rfl ?_
  refine WX.next ?_
  refine WC.ret ?_
  injection hf with hf
  subst hf
  exact WX.thenR (WX.ret_ [] (.tuple #[(.pointer none), (iv 4)]) [] (fun fb => by kernel_rfl) trivial ⟨_, rfl, 0, none, 0, h0, rfl, hS1187.keep⟩)
 refine WC.condF2 (fun fb => by kernel_rfl) h1188 ?_
 refine WC.skip ?_
 refine WX.next ?_
 refine WC.seq ?_
 refine WC.regionD ([(5, ⟨g1114, 0, none⟩, (.slice A_p3_North p3.North.length c_p3_North)), (5, ⟨g1114, 1, none⟩, (.slice A_p3_East p3.East.length c_p3_East)), (5, ⟨g1114, 2, none⟩, (.slice A_p3_South p3.South.length c_p3_South)), (5, ⟨g1114, 3, none⟩, (.slice A_p3_West p3.West.length c_p3_West))], [0, 1, 3, 4, 5, 6, 8, 9], [[], [], [0, 1], [], [], [], [0, 1, 2, 3, 4, 5], [0, 1, 2, 3, 4, 5, 6], [0, 1, 2, 3, 4, 5, 6, 7], [0, 1, 2, 3, 4, 5, 6, 7, 8]]) [[0, 1, 3, 4, 5, 2, 6, 7, 8, 9]] (by kernel_rfl) (by kernel_rfl) (NoPanic.seq (NoPanic.body)) ?_
 have hS1202 := hS1187.drew
 revert hS1202
 generalize World.drew w1185 = w1201
 intro hS1202
 refine ⟨⟨hS1202.cell 0 rfl 0 rfl, hS1202.cell 0 rfl 1 rfl, hS1202.cell 0 rfl 2 rfl, hS1202.cell 0 rfl 3 rfl, trivial⟩, forallC ?_ (forallN)⟩
 refine segF 5 [.v (.slice A_p3_North p3.North.length c_p3_North), .v (.slice A_p3_East p3.East.length c_p3_East), .v (.slice A_p3_South p3.South.length c_p3_South), .v (.slice A_p3_West p3.West.length c_p3_West)] [68, 69, 71, 72, 73] [(68, (.slice A_p0 p0.length c_p0)), (69, (iv p1)), (71, (iv p1)), (72, (iv p2)), (73, (.agg #[(.slice A_p3_North p3.North.length c_p3_North), (.slice A_p3_East p3.East.length c_p3_East), (.slice A_p3_South p3.South.length c_p3_South), (.slice A_p3_West p3.West.length c_p3_West)]))] [] [0, 1, 2, 3] [(5, ⟨g1114, 0, none⟩, (.slice A_p3_North p3.North.length c_p3_North)), (5, ⟨g1114, 1, none⟩, (.slice A_p3_East p3.East.length c_p3_East)), (5, ⟨g1114, 2, none⟩, (.slice A_p3_South p3.South.length c_p3_South)), (5, ⟨g1114, 3, none⟩, (.slice A_p3_West p3.West.length c_p3_West))] (fun fb => by kernel_rfl) rfl trivial rfl ?_
 obtain ⟨t1203, ht1204, hf⟩ := bind_some hf
 refine WL.call (some 70) 67 #[(.slice A_p0 p0.length c_p0), (iv p1)] (fun fb => by kernel_rfl) (rows_All_calls _ p0 p1 A_p0 c_p0 t1203 _ (hS1202.rd 1) ht1204) (fun v w1205 hR1206 => ?_)
 obtain ⟨A1208, c1209, H1210, rfl, hk_⟩ := hR1206
 have hS1207 : St NoS w w1205 [nestO subN_S108 (hlN [(hd1 A_p3_North c_p3_North), (hd1 A_p3_South c_p3_South), (hd1 A_p3_East c_p3_East), (hd1 A_p3_West c_p3_West)]) [(S108.mk p3.North p1), (S108.mk p3.South p1), (S108.mk p3.East p2), (S108.mk p3.West p2)], rowR enc_Tile A_p0 c_p0 p0, rowR encInt A_p3_North c_p3_North p3.North, rowR encInt A_p3_East c_p3_East p3.East, rowR encInt A_p3_South c_p3_South p3.South, rowR encInt A_p3_West c_p3_West p3.West] [rowO 88 encN_Row A1208 c1209 (tag H1210 t1203), poolO [nestO subN_Row H1210 t1203], blk g1114 (.cells #[(.slice A_p3_North p3.North.length c_p3_North), (.slice A_p3_East p3.East.length c_p3_East), (.slice A_p3_South p3.South.length c_p3_South), (.slice A_p3_West p3.West.length c_p3_West)] 57 (0, 0))] := hS1202.call hk_ [] [0] (fun g hg => hg.elim) (by simp) (by decide)
 refine ⟨⟨hS1207.cell 2 rfl 0 rfl, hS1207.cell 2 rfl 1 rfl, hS1207.cell 2 rfl 2 rfl, hS1207.cell 2 rfl 3 rfl, trivial⟩, ?_⟩
 refine seg 7 [] [74] [(74, (.agg #[(.slice A1208 t1203.length c1209), (iv p1), (iv p2), (.slice A_p3_North p3.North.length c_p3_North), (.slice A_p3_East p3.East.length c_p3_East), (.slice A_p3_South p3.South.length c_p3_South), (.slice A_p3_West p3.West.length c_p3_West)]))] [] (fun fb => by kernel_rfl) rfl trivial ?_
 refine WL.new hS1207 75 [] (fun g => (.pointer (some ⟨g, 0, none⟩))) (.cells #[(.slice A1208 t1203.length c1209), (iv p1), (iv p2), (.slice A_p3_North p3.North.length c_p3_North), (.slice A_p3_East p3.East.length c_p3_East), (.slice A_p3_South p3.South.length c_p3_South), (.slice A_p3_West p3.West.length c_p3_West)] 84 (0, 0)) [] (fun fb g => by kernel_rfl) trivial (fun g1211 w1212 hS1213 => ?_)
 refine ⟨trivial, ?_⟩
 refine seg 10 [] [8, 9] [(8, (pt g1211)), (9, (iv 0))] [] (fun fb => by kernel_rfl) rfl trivial ?_
 refine WL.done rfl ?_
 refine WX.next ?_
 refine WC.ret ?_
 injection hf with hf
 subst hf
 exact WX.ret_ [] (.tuple #[(pt g1211), (iv 0)]) [] (fun fb => by kernel_rfl) trivial ⟨_, rfl, g1211, A1208, c1209, H1210, rfl, (hS1213.sub [0, 1, 2] (by decide)).noR⟩
theorem fill_at_calls (p0 : List Int) (p1 : Int) (p2 : Int) (A_p0 : Option Addr) (c_p0 : Nat) (r : Bool) (w : World) (hR0 : RO NoS w (rowR encInt A_p0 c_p0 p0)) (hf : fill_at p0 p1 p2 = some r) :
  CallsR Try.prog 68 #[(.slice A_p0 p0.length c_p0), (iv p1), (iv p2)] w (fun v w' => v = (.bool r) ∧ Keeps NoS w w') := by
 have hS : St NoS w w [rowR encInt A_p0 c_p0 p0] [] := St.init (ro_cons hR0 (ro_nil _ _))
 refine enter 18 Try.func68 rfl Try.ntmps68 rfl ?_
 unfold fill_at at hf
 refine WC.seq ?_
 refine WC.region ?_
 refine seg 1 [] [0, 1, 2] [(0, (.slice A_p0 p0.length c_p0)), (1, (iv p1)), (2, (iv p2))] [] (fun fb => by kernel_rfl) rfl trivial ?_
 refine WL.done rfl ?_
 refine WX.next ?_
 refine WC.seq ?_
 refine WC.region ?_
 refine seg 4 [] [0, 1, 2, 10] [(0, (.slice A_p0 p0.length c_p0)), (1, (iv p1)), (2, (iv p2)), (10, (.bool ((p0.length : Int) == 0)))] [] (fun fb => by kernel_rfl) rfl trivial ?_
 obtain ⟨b1317, hv1318, hf⟩ := bind_some hf
 refine WL.cutV (T := Unit) 11 (fun t => [(17, (.bool b1317))]) (fun t => True) (fun K => ?_) ?_
 ·
  rcases br_some hv1318 with ⟨h1319, hv1318⟩ | ⟨h1319, hv1318⟩
  ·
   refine WL.setB 10 h1319 rfl ?_
   refine seg 11 [] [17] [(17, (.bool true))] [] (fun fb => by kernel_rfl) rfl trivial ?_
   injection hv1318 with hv1318
   subst hv1318
   exact WL.toV K () [17] rfl trivial
  refine WL.setB 10 h1319 rfl ?_
  refine seg 6 [] [2, 10, 11, 12] [(2, (iv p2)), (10, (.bool false)), (11, (.slice A_p0 p0.length c_p0)), (12, (iv p1))] [] (fun fb => by kernel_rfl) rfl trivial ?_
  obtain ⟨h1320, hv1318⟩ := as_some hv1318
  refine seg 11 [.v (iv (rdD p0 p1 0))] [17] [(17, (.bool ((rdD p0 p1 0) == p2)))] [.idx A_p0 p1 p0.length, .cell ((adr A_p0).add ((p1).toNat * 1)) (iv (rdD p0 p1 0))] (fun fb => by kernel_rfl) rfl ⟨rowR.adr (hS.rd 0).1 h1320.1 h1320.2, rowR.cell (hS.rd 0).1 0 h1320.1 h1320.2 0 rfl, trivial⟩ ?_
  injection hv1318 with hv1318
  subst hv1318
  exact WL.toV K () [17] rfl trivial
 rintro _ _
 refine seg 12 [] [6] [(6, (.bool b1317))] [] (fun fb => by kernel_rfl) rfl trivial ?_
 refine WL.done rfl ?_
 refine WX.next ?_
 refine WC.ret ?_
 injection hf with hf
 subst hf
 exact WX.ret_ [] (.bool b1317) [] (fun fb => by kernel_rfl) trivial ⟨_, rfl, rfl, hS.keep⟩
theorem fill_job_allows_calls (k : Nat) (p0 : Job) (p1 : Row) (p2 : Int) (g_p0 : Nat) (A_p0_rows : Option Addr) (c_p0_rows : Nat) (H_p0_rows : Nat → HF) (A_p0_edges_North : Option Addr) (c_p0_edges_North : Nat) (A_p0_edges_East : Option Addr) (c_p0_edges_East : Nat) (A_p0_edges_South : Option Addr) (c_p0_edges_South : Nat) (A_p0_edges_West : Option Addr) (c_p0_edges_West : Nat) (A_p1_Cells : Option Addr) (c_p1_Cells : Nat) (r : Bool) (w : World) (hR0 : RO NoS w (blk g_p0 (.cells #[(.slice A_p0_rows p0.rows.length c_p0_rows), (iv p0.width), (iv p0.height), (.slice A_p0_edges_North p0.edges.North.length c_p0_edges_North), (.slice A_p0_edges_East p0.edges.East.length c_p0_edges_East), (.slice A_p0_edges_South p0.edges.South.length c_p0_edges_South), (.slice A_p0_edges_West p0.edges.West.length c_p0_edges_West)] 84 (0, 0)))) (hR1 : RO NoS w (rowR encN_Row A_p0_rows c_p0_rows (tag H_p0_rows p0.rows))) (hR2 : RO NoS w (nestO subN_Row H_p0_rows p0.rows)) (hR3 : RO NoS w (rowR encInt A_p0_edges_North c_p0_edges_North p0.edges.North)) (hR4 : RO NoS w (rowR encInt A_p0_edges_East c_p0_edges_East p0.edges.East)) (hR5 : RO NoS w (rowR encInt A_p0_edges_South c_p0_edges_South p0.edges.South)) (hR6 : RO NoS w (rowR encInt A_p0_edges_West c_p0_edges_West p0.edges.West)) (hR7 : RO NoS w (rowR encInt A_p1_Cells c_p1_Cells p1.Cells)) (hf : fill_job_allows k p0 p1 p2 = some r) :
  CallsR Try.prog 55 #[(.pointer (some ⟨g_p0, 0, none⟩)), (.agg #[(.slice A_p1_Cells p1.Cells.length c_p1_Cells), (iv p1.South.e0), (iv p1.South.e1), (iv p1.South.e2), (iv p1.South.e3), (iv p1.South.e4), (iv p1.South.e5), (iv p1.South.e6), (iv p1.South.e7), (iv p1.North.e0), (iv p1.North.e1), (iv p1.North.e2), (iv p1.North.e3), (iv p1.North.e4), (iv p1.North.e5), (iv p1.North.e6), (iv p1.North.e7), (iv p1.West), (iv p1.East)]), (iv p2)] w (fun v w' => v = (.bool r) ∧ Keeps NoS w w') := by
 have hS : St NoS w w [blk g_p0 (.cells #[(.slice A_p0_rows p0.rows.length c_p0_rows), (iv p0.width), (iv p0.height), (.slice A_p0_edges_North p0.edges.North.length c_p0_edges_North), (.slice A_p0_edges_East p0.edges.East.length c_p0_edges_East), (.slice A_p0_edges_South p0.edges.South.length c_p0_edges_South), (.slice A_p0_edges_West p0.edges.West.length c_p0_edges_West)] 84 (0, 0)), rowR encN_Row A_p0_rows c_p0_rows (tag H_p0_rows p0.rows), nestO subN_Row H_p0_rows p0.rows, rowR encInt A_p0_edges_North c_p0_edges_North p0.edges.North, rowR encInt A_p0_edges_East c_p0_edges_East p0.edges.East, rowR encInt A_p0_edges_South c_p0_edges_South p0.edges.South, rowR encInt A_p0_edges_West c_p0_edges_West p0.edges.West, rowR encInt A_p1_Cells c_p1_Cells p1.Cells] [] := St.init (ro_cons hR0 (ro_cons hR1 (ro_cons hR2 (ro_cons hR3 (ro_cons hR4 (ro_cons hR5 (ro_cons hR6 (ro_cons hR7 (ro_nil _ _)))))))))
 refine enter 77 Try.func55 rfl Try.ntmps55 rfl ?_
 unfold fill_job_allows at hf
 refine WC.seq ?_
 refine WC.region ?_
 refine WL.new hS 4 [] (fun g => (.pointer (some ⟨g, 0, none⟩))) (.cells #[(.slice A_p1_Cells p1.Cells.length c_p1_Cells), (iv p1.South.e0), (iv p1.South.e1), (iv p1.South.e2), (iv p1.South.e3), (iv p1.South.e4), (iv p1.South.e5), (iv p1.South.e6), (iv p1.South.e7), (iv p1.North.e0), (iv p1.North.e1), (iv p1.North.e2), (iv p1.North.e3), (iv p1.North.e4), (iv p1.North.e5), (iv p1.North.e6), (iv p1.North.e7), (iv p1.West), (iv p1.East)] 88 (0, 0)) [] (fun fb g => by kernel_rfl) trivial (fun g1312 w1313 hS1314 => ?_)
 refine ⟨trivial, ?_⟩
 refine seg 2 [] [0, 2, 4] [(0, (.pointer (some ⟨g_p0, 0, none⟩))), (2, (iv p2)), (4, (pt g1312))] [] (fun fb => by kernel_rfl) rfl trivial ?_
 refine WL.done rfl ?_
 refine WX.next ?_
 refine WC.seq ?_
 refine WC.seq ?_
 refine WC.regionD ([(4, ⟨g_p0, 6, none⟩, (.slice A_p0_edges_West p0.edges.West.length c_p0_edges_West)), (7, ⟨g1312, 17, none⟩, (iv p1.West)), (18, ⟨g1312, 18, none⟩, (iv p1.East))], [0, 1, 2, 3, 4, 5, 6, 7, 9, 10, 11, 12, 13, 14, 16, 17, 18, 20, 21], [[], [0], [0, 1], [0, 1, 2], [0, 1, 2, 3], [], [], [6], [0, 1, 2, 3, 4, 5, 6, 7], [0, 1, 2, 3, 4, 5, 6, 7, 8], [0, 1, 2, 3, 4, 5, 6, 7, 8, 9], [0, 1, 2, 3, 4, 5, 6, 7, 8, 9, 10], [0, 1, 2, 3, 4, 5, 6, 7, 8, 9, 10, 11], [0, 1, 2, 3, 4, 5, 6, 7, 8, 9, 10, 11, 12], [0, 1, 2, 3, 4, 5, 6, 7, 8, 9, 10, 11, 12, 13], [0, 1, 2, 3, 4, 5, 6, 7, 8, 9, 10, 11, 12, 13, 14], [0, 1, 2, 3, 4, 5, 6, 7, 8, 9, 10], [0, 1, 2, 3, 4, 5, 6, 7, 8, 9, 10], [0, 1, 2, 3, 4, 5, 6, 7, 8, 9, 10, 17], [0, 1, 2, 3, 4, 5, 6, 7, 8, 9, 10, 11, 12, 13, 14, 15, 16, 17, 18], [0, 1, 2, 3, 4, 5, 6, 7, 8, 9, 10, 11, 12, 13, 14, 15, 16, 17, 18, 19], [0, 1, 2, 3, 4, 5, 6, 7, 8, 9, 10, 11, 12, 13, 14, 15, 16, 17, 18, 19, 20]]) [[0, 1, 2, 3, 4, 5, 6, 7, 8, 9, 10, 11, 12, 13, 14, 16, 17, 18, 15, 19, 20, 21]] (by kernel_rfl) (by kernel_rfl) (NoPanic.seq (NoPanic.seq (NoPanic.body))) ?_
 have hS1346 := hS1314.drew
 revert hS1346
 generalize World.drew w1313 = w1345
 intro hS1346
 refine ⟨⟨blk_cell (hS1346.rd 0).1 6 rfl, hS1346.cell 0 rfl 17 rfl, hS1346.cell 0 rfl 18 rfl, trivial⟩, forallC ?_ (forallN)⟩
 refine segF 8 [.v (.slice A_p0_edges_West p0.edges.West.length c_p0_edges_West), .v (iv p1.West)] [0, 2, 4, 12, 13, 15] [(0, (.pointer (some ⟨g_p0, 0, none⟩))), (2, (iv p2)), (4, (pt g1312)), (12, (.slice A_p0_edges_West p0.edges.West.length c_p0_edges_West)), (13, (iv p2)), (15, (iv p1.West))] [] [0, 1] [(4, ⟨g_p0, 6, none⟩, (.slice A_p0_edges_West p0.edges.West.length c_p0_edges_West)), (7, ⟨g1312, 17, none⟩, (iv p1.West))] (fun fb => by kernel_rfl) rfl trivial rfl ?_
 obtain ⟨t1347, ht1348, hf⟩ := bind_some hf
 refine WL.call (some 16) 68 #[(.slice A_p0_edges_West p0.edges.West.length c_p0_edges_West), (iv p2), (iv p1.West)] (fun fb => by kernel_rfl) (fill_at_calls p0.edges.West p2 p1.West A_p0_edges_West c_p0_edges_West t1347 _ (hS1346.rd 6) ht1348) (fun v w1349 hR1350 => ?_)
 obtain ⟨rfl, hk_⟩ := hR1350
 have hS1351 := hS1346.keepN hk_
 refine ⟨⟨hS1351.cell 0 rfl 18 rfl, trivial⟩, ?_⟩
 refine seg 11 [] [0, 2, 4, 18] [(0, (.pointer (some ⟨g_p0, 0, none⟩))), (2, (iv p2)), (4, (pt g1312)), (18, (.bool (!t1347)))] [] (fun fb => by kernel_rfl) rfl trivial ?_
 obtain ⟨x1358, hx1359, hf⟩ := bind_some hf
 refine WL.cutW (T := Bool) 22 (fun t => [(0, (.pointer (some ⟨g_p0, 0, none⟩))), (2, (iv p2)), (4, (pt g1312)), (29, (.bool t))]) (fun t w1 => (St NoS w w1 [blk g_p0 (.cells #[(.slice A_p0_rows p0.rows.length c_p0_rows), (iv p0.width), (iv p0.height), (.slice A_p0_edges_North p0.edges.North.length c_p0_edges_North), (.slice A_p0_edges_East p0.edges.East.length c_p0_edges_East), (.slice A_p0_edges_South p0.edges.South.length c_p0_edges_South), (.slice A_p0_edges_West p0.edges.West.length c_p0_edges_West)] 84 (0, 0)), rowR encN_Row A_p0_rows c_p0_rows (tag H_p0_rows p0.rows), nestO subN_Row H_p0_rows p0.rows, rowR encInt A_p0_edges_North c_p0_edges_North p0.edges.North, rowR encInt A_p0_edges_East c_p0_edges_East p0.edges.East, rowR encInt A_p0_edges_South c_p0_edges_South p0.edges.South, rowR encInt A_p0_edges_West c_p0_edges_West p0.edges.West, rowR encInt A_p1_Cells c_p1_Cells p1.Cells] [blk g1312 (.cells #[(.slice A_p1_Cells p1.Cells.length c_p1_Cells), (iv p1.South.e0), (iv p1.South.e1), (iv p1.South.e2), (iv p1.South.e3), (iv p1.South.e4), (iv p1.South.e5), (iv p1.South.e6), (iv p1.South.e7), (iv p1.North.e0), (iv p1.North.e1), (iv p1.North.e2), (iv p1.North.e3), (iv p1.North.e4), (iv p1.North.e5), (iv p1.North.e6), (iv p1.North.e7), (iv p1.West), (iv p1.East)] 88 (0, 0))] ∧ x1358 = t) ∧ CellsOK [] w1) (fun K => ?_) ?_
 ·
  rcases br_some hx1359 with ⟨h1360, hx1359⟩ | ⟨h1360, hx1359⟩
  ·
   refine WL.setB 18 h1360 rfl ?_
   refine seg 22 [] [0, 2, 4, 29] [(0, (.pointer (some ⟨g_p0, 0, none⟩))), (2, (iv p2)), (4, (pt g1312)), (29, (.bool true))] [] (fun fb => by kernel_rfl) rfl trivial ?_
   injection hx1359 with hx1359
   exact WL.to K true [0, 2, 4, 29] rfl ⟨⟨(hS1351.subR [0, 1, 2, 3, 4, 5, 6, 7]).sub [0] (by decide), hx1359.symm⟩, trivial⟩
  refine WL.setB 18 h1360 rfl ?_
  refine segF 19 [.v (iv p1.East), .v (.slice A_p0_edges_East p0.edges.East.length c_p0_edges_East)] [0, 2, 4, 18, 23, 24, 26] [(0, (.pointer (some ⟨g_p0, 0, none⟩))), (2, (iv p2)), (4, (pt g1312)), (18, (.bool false)), (23, (.slice A_p0_edges_East p0.edges.East.length c_p0_edges_East)), (24, (iv p2)), (26, (iv p1.East))] [.cell ⟨g_p0, 4, none⟩ (.slice A_p0_edges_East p0.edges.East.length c_p0_edges_East)] [2] [(18, ⟨g1312, 18, none⟩, (iv p1.East))] (fun fb => by kernel_rfl) rfl ⟨blk_cell (hS1351.rd 0).1 4 rfl, trivial⟩ rfl ?_
  obtain ⟨t1361, ht1362, hx1359⟩ := bind_some hx1359
  refine WL.call (some 27) 68 #[(.slice A_p0_edges_East p0.edges.East.length c_p0_edges_East), (iv p2), (iv p1.East)] (fun fb => by kernel_rfl) (fill_at_calls p0.edges.East p2 p1.East A_p0_edges_East c_p0_edges_East t1361 _ (hS1351.rd 4) ht1362) (fun v w1363 hR1364 => ?_)
  obtain ⟨rfl, hk_⟩ := hR1364
  have hS1365 := hS1351.keepN hk_
  refine ⟨trivial, ?_⟩
  refine seg 22 [] [0, 2, 4, 29] [(0, (.pointer (some ⟨g_p0, 0, none⟩))), (2, (iv p2)), (4, (pt g1312)), (29, (.bool (!t1361)))] [] (fun fb => by kernel_rfl) rfl trivial ?_
  injection hx1359 with hx1359
  exact WL.to K (!t1361) [0, 2, 4, 29] rfl ⟨⟨(hS1365.subR [0, 1, 2, 3, 4, 5, 6, 7]).sub [0] (by decide), hx1359.symm⟩, trivial⟩
 rintro y1366 w1368 ⟨⟨hS1369, hq1367⟩, hF1370⟩
 subst hq1367
 refine WL.done rfl ?_
 refine WX.next ?_
 rcases br_some hf with ⟨h1371, hf⟩ | ⟨h1371, hf⟩
 ·refine WC.condT2 (fun fb => by kernel_rfl) h1371 ?_
  refine WC.seq ?_
  refine WC.region ?_
  refine seg 1 [] [6] [(6, (.bool false))] [] (fun fb => by kernel_rfl) rfl trivial ?_
  refine WL.done rfl ?_
  refine WX.next ?_
  refine WC.ret ?_
  injection hf with hf
  subst hf
  exact WX.thenR (WX.ret_ [] (.bool false) [] (fun fb => by kernel_rfl) trivial ⟨_, rfl, rfl, hS1369.keep⟩)
 refine WC.condF2 (fun fb => by kernel_rfl) h1371 ?_
 refine WC.skip ?_
 refine WX.next ?_
 refine WC.seq ?_
 refine WC.seq ?_
 refine WC.region ?_
 refine seg 5 [.v (iv p0.width)] [0, 2, 4, 33, 34] [(0, (.pointer (some ⟨g_p0, 0, none⟩))), (2, (iv p2)), (4, (pt g1312)), (33, (iv p0.width)), (34, (iv 0))] [.cell ⟨g_p0, 1, none⟩ (iv p0.width)] (fun fb => by kernel_rfl) rfl ⟨blk_cell (hS1369.rd 0).1 1 rfl, trivial⟩ ?_
 refine WL.done rfl ?_
 refine WX.next ?_
 obtain ⟨x1908, hx1909, hf⟩ := bind_some hf
 refine WC.cutN (T := Unit) (fun t => []) (fun t w1 => St NoS w w1 [blk g_p0 (.cells #[(.slice A_p0_rows p0.rows.length c_p0_rows), (iv p0.width), (iv p0.height), (.slice A_p0_edges_North p0.edges.North.length c_p0_edges_North), (.slice A_p0_edges_East p0.edges.East.length c_p0_edges_East), (.slice A_p0_edges_South p0.edges.South.length c_p0_edges_South), (.slice A_p0_edges_West p0.edges.West.length c_p0_edges_West)] 84 (0, 0)), rowR encN_Row A_p0_rows c_p0_rows (tag H_p0_rows p0.rows), nestO subN_Row H_p0_rows p0.rows, rowR encInt A_p0_edges_North c_p0_edges_North p0.edges.North, rowR encInt A_p0_edges_East c_p0_edges_East p0.edges.East, rowR encInt A_p0_edges_South c_p0_edges_South p0.edges.South, rowR encInt A_p0_edges_West c_p0_edges_West p0.edges.West, rowR encInt A_p1_Cells c_p1_Cells p1.Cells] [] ∧ x1908 = .inr t) (fun Kx1908 => ?_) ?_
 ·
  refine WC.block ?_
  refine WC.loop (T := Int) (fun t => [(0, (.pointer (some ⟨g_p0, 0, none⟩))), (2, (iv p2)), (4, (pt g1312)), (33, (iv p0.width)), (34, (iv t))]) (fun n t w1 => St NoS w w1 [blk g_p0 (.cells #[(.slice A_p0_rows p0.rows.length c_p0_rows), (iv p0.width), (iv p0.height), (.slice A_p0_edges_North p0.edges.North.length c_p0_edges_North), (.slice A_p0_edges_East p0.edges.East.length c_p0_edges_East), (.slice A_p0_edges_South p0.edges.South.length c_p0_edges_South), (.slice A_p0_edges_West p0.edges.West.length c_p0_edges_West)] 84 (0, 0)), rowR encN_Row A_p0_rows c_p0_rows (tag H_p0_rows p0.rows), nestO subN_Row H_p0_rows p0.rows, rowR encInt A_p0_edges_North c_p0_edges_North p0.edges.North, rowR encInt A_p0_edges_East c_p0_edges_East p0.edges.East, rowR encInt A_p0_edges_South c_p0_edges_South p0.edges.South, rowR encInt A_p0_edges_West c_p0_edges_West p0.edges.West, rowR encInt A_p1_Cells c_p1_Cells p1.Cells] [blk g1312 (.cells #[(.slice A_p1_Cells p1.Cells.length c_p1_Cells), (iv p1.South.e0), (iv p1.South.e1), (iv p1.South.e2), (iv p1.South.e3), (iv p1.South.e4), (iv p1.South.e5), (iv p1.South.e6), (iv p1.South.e7), (iv p1.North.e0), (iv p1.North.e1), (iv p1.North.e2), (iv p1.North.e3), (iv p1.North.e4), (iv p1.North.e5), (iv p1.North.e6), (iv p1.North.e7), (iv p1.West), (iv p1.East)] 88 (0, 0))] ∧ fill_job_allows.l0 n t p0 p1 p2 = some x1908) k 0 [0, 2, 4, 33, 34] rfl ⟨(hS1369.subR [0, 1, 2, 3, 4, 5, 6, 7]).sub [0] (by decide), hx1909⟩ ?_
  rintro k1910 x1907 w1911 ⟨hS1912, hl1913⟩
  cases k1910 with
  | zero => rw [fill_job_allows.l0] at hl1913; cases hl1913
  | succ k1910 =>
   rw [fill_job_allows.l0] at hl1913
   refine WC.seq ?_
   refine WC.region ?_
   refine seg 1 [] [0, 2, 4, 33, 34, 35] [(0, (.pointer (some ⟨g_p0, 0, none⟩))), (2, (iv p2)), (4, (pt g1312)), (33, (iv p0.width)), (34, (iv x1907)), (35, (.bool (decide (x1907 < p0.width))))] [] (fun fb => by kernel_rfl) rfl trivial ?_
   refine WL.done rfl ?_
   refine WX.next ?_
   refine WC.seq ?_
   rcases br_some hl1913 with ⟨h1914, hl1913⟩ | ⟨h1914, hl1913⟩
   ·refine WC.condT2 (fun fb => by kernel_rfl) h1914 ?_
    refine WC.skip ?_
    refine WX.next ?_
    refine WC.seq ?_
    refine WC.block ?_
    refine WC.seq ?_
    refine WC.region ?_
    refine seg 2 [] [0, 2, 4, 7, 33, 34] [(0, (.pointer (some ⟨g_p0, 0, none⟩))), (2, (iv p2)), (4, (pt g1312)), (7, (iv x1907)), (33, (iv p0.width)), (34, (iv x1907))] [] (fun fb => by kernel_rfl) rfl trivial ?_
    refine WL.done rfl ?_
    refine WX.next ?_
    refine WC.seq ?_
    obtain ⟨x2050, hx2051, hl1913⟩ := bind_some hl1913
    refine WC.cutN (T := Bool) (fun t => [(0, (.pointer (some ⟨g_p0, 0, none⟩))), (2, (iv p2)), (4, (pt g1312)), (33, (iv p0.width)), (34, (iv x1907)), (75, (.bool t))]) (fun t w1 => St NoS w w1 [blk g_p0 (.cells #[(.slice A_p0_rows p0.rows.length c_p0_rows), (iv p0.width), (iv p0.height), (.slice A_p0_edges_North p0.edges.North.length c_p0_edges_North), (.slice A_p0_edges_East p0.edges.East.length c_p0_edges_East), (.slice A_p0_edges_South p0.edges.South.length c_p0_edges_South), (.slice A_p0_edges_West p0.edges.West.length c_p0_edges_West)] 84 (0, 0)), rowR encN_Row A_p0_rows c_p0_rows (tag H_p0_rows p0.rows), nestO subN_Row H_p0_rows p0.rows, rowR encInt A_p0_edges_North c_p0_edges_North p0.edges.North, rowR encInt A_p0_edges_East c_p0_edges_East p0.edges.East, rowR encInt A_p0_edges_South c_p0_edges_South p0.edges.South, rowR encInt A_p0_edges_West c_p0_edges_West p0.edges.West, rowR encInt A_p1_Cells c_p1_Cells p1.Cells] [blk g1312 (.cells #[(.slice A_p1_Cells p1.Cells.length c_p1_Cells), (iv p1.South.e0), (iv p1.South.e1), (iv p1.South.e2), (iv p1.South.e3), (iv p1.South.e4), (iv p1.South.e5), (iv p1.South.e6), (iv p1.South.e7), (iv p1.North.e0), (iv p1.North.e1), (iv p1.North.e2), (iv p1.North.e3), (iv p1.North.e4), (iv p1.North.e5), (iv p1.North.e6), (iv p1.North.e7), (iv p1.West), (iv p1.East)] 88 (0, 0))] ∧ x2050 = t) (fun Kx2050 => ?_) ?_
    ·
     rcases br_some hx2051 with ⟨h2052, hx2051⟩ | ⟨h2052, hx2051⟩
     ·
      rcases br_some hx2051 with ⟨h2059, hx2051⟩ | ⟨h2059, hx2051⟩
      ·
       obtain ⟨h2088, hx2051⟩ := as_some hx2051
       refine WC.regionD ([(7, ⟨g_p0, 5, none⟩, (.slice A_p0_edges_South p0.edges.South.length c_p0_edges_South)), (12, (flatA ⟨g1312, 1, none⟩ (x1907.toNat * 1)), (iv (A8_Int.get p1.South x1907)))], [0, 1, 2, 3, 4, 5, 6, 7, 8, 9, 10, 11, 12, 14, 15, 16, 17, 18, 19, 20, 22, 23, 24, 25, 26, 27, 28, 30, 31, 32, 33, 36, 37, 38], [[], [0], [0, 1], [0, 1, 2], [0, 1, 2, 3], [0, 1, 2, 3, 4], [0, 1, 2, 3, 4, 5], [0, 1, 2, 3, 4, 5, 6], [0, 1, 2], [0, 1, 2], [0, 1, 2], [0, 1, 2, 9, 10], [0, 1, 2, 9, 10, 11], [0, 1, 2, 3, 4, 5, 6, 7, 8, 9, 10, 11, 12], [0, 1, 2, 3, 4, 5, 6, 7, 8, 9, 10, 11, 12, 13], [0, 1, 2, 3, 4, 5, 6, 7, 8, 9, 10, 11, 12, 13, 14], [0, 1, 2, 3, 4, 5, 6, 7, 8, 9, 10, 11, 12, 13, 14, 15], [0, 1, 2, 3, 4, 5, 6, 7, 8, 9, 10, 11, 12, 13, 14, 15, 16], [0, 1, 2, 3, 4, 5, 6, 7, 8, 9, 10, 11, 12, 13, 14, 15, 16], [0, 1, 2, 3, 4, 5, 6, 7, 8, 9, 10, 11, 12, 13, 14, 15, 16, 18], [0, 1, 2, 3, 4, 5, 6, 7, 8, 9, 10, 11, 12, 13, 14, 15, 16, 18, 19], [0, 1, 2, 3, 4, 5, 6, 7, 8, 9, 10, 11, 12, 13, 14, 15, 16, 18, 19, 20], [0, 1, 2, 3, 4, 5, 6, 7, 8, 9, 10, 11, 12, 13, 14, 15, 16, 18, 19, 20, 21], [0, 1, 2, 3, 4, 5, 6, 7, 8, 9, 10, 11, 12, 13, 14, 15, 16, 17, 18, 19, 20, 21, 22], [0, 1, 2, 3, 4, 5, 6, 7, 8, 9, 10, 11, 12, 13, 14, 15, 16, 17, 18, 19, 20, 21, 22, 23], [0, 1, 2, 3, 4, 5, 6, 7, 8, 9, 10, 11, 12, 13, 14, 15, 16, 17, 18, 19, 20, 21, 22, 23, 24], [0, 1, 2, 3, 4, 5, 6, 7, 8, 9, 10, 11, 12, 13, 14, 15, 16, 17, 18, 19, 20, 21, 22, 23, 24, 25], [0, 1, 2, 3, 4, 5, 6, 7, 8, 9, 10, 11, 12, 13, 14, 15, 16, 17, 18, 19, 20, 21, 22, 23, 24, 25, 26], [0, 1, 2, 3, 4, 5, 6, 7, 8, 9, 10, 11, 12, 13, 14, 15, 16, 17, 18, 19, 20, 21, 22, 23, 24, 25, 26, 27], [0, 1, 2, 3, 4, 5, 6, 7, 8, 9, 10, 11, 12, 13, 14, 15, 16, 17, 18, 19, 20, 21, 22, 23, 24, 25, 26, 27, 28], [0, 1, 2, 3, 4, 5, 6, 7, 8, 9, 10, 11, 12, 13, 14, 15, 16, 17, 18, 19, 20, 21, 22, 23, 24], [0, 1, 2, 3, 4, 5, 6, 7, 8, 9, 10, 11, 12, 13, 14, 15, 16, 17, 18, 19, 20, 21, 22, 23, 24], [0, 1, 2, 3, 4, 5, 6, 7, 8, 9, 10, 11, 12, 13, 14, 15, 16, 17, 18, 19, 20, 21, 22, 23, 24], [0, 1, 2, 3, 4, 5, 6, 7, 8, 9, 10, 11, 12, 13, 14, 15, 16, 17, 18, 19, 20, 21, 22, 23, 24, 31, 32], [0, 1, 2, 3, 4, 5, 6, 7, 8, 9, 10, 11, 12, 13, 14, 15, 16, 17, 18, 19, 20, 21, 22, 23, 24, 31, 32, 33], [0, 1, 2, 3, 4, 5, 6, 7, 8, 9, 10, 11, 12, 13, 14, 15, 16, 17, 18, 19, 20, 21, 22, 23, 24, 25, 26, 27, 28, 29, 30, 31, 32, 33, 34], [0, 1, 2, 3, 4, 5, 6, 7, 8, 9, 10, 11, 12, 13, 14, 15, 16, 17, 18, 19, 20, 21, 22, 23, 24, 25, 26, 27, 28, 29, 30, 31, 32, 33, 34, 35], [0, 1, 2, 3, 4, 5, 6, 7, 8, 9, 10, 11, 12, 13, 14, 15, 16, 17, 18, 19, 20, 21, 22, 23, 24, 25, 26, 27, 28, 29, 30, 31, 32, 33, 34, 35, 36], [0, 1, 2, 3, 4, 5, 6, 7, 8, 9, 10, 11, 12, 13, 14, 15, 16, 17, 18, 19, 20, 21, 22, 23, 24, 25, 26, 27, 28, 29, 30, 31, 32, 33, 34, 35, 36, 37]]) [[0, 1, 2, 3, 4, 5, 6, 7, 8, 9, 10, 11, 12, 13, 14, 15, 16, 17, 18, 19, 20, 21, 22, 23, 24, 25, 26, 27, 28, 30, 31, 32, 33, 29, 34, 35, 36, 37, 38], [0, 1, 2, 3, 4, 5, 6, 7, 8, 9, 10, 11, 12, 13, 14, 15, 16, 17, 18, 19, 20, 21, 22, 23, 24, 25, 26, 27, 28, 30, 31, 32, 33, 34, 29, 35, 36, 37, 38]] (by kernel_rfl) (by kernel_rfl) (NoPanic.seq (NoPanic.block (NoPanic.seq (NoPanic.seq (NoPanic.block (NoPanic.seq (NoPanic.body))))))) ?_
       have hS2086 := hS1912.drew
       revert hS2086
       generalize World.drew w1911 = w2085
       intro hS2086
       refine ⟨⟨blk_cell (hS2086.rd 0).1 5 rfl, hS2086.cell 0 rfl _ (cases8 (Q := fun z_ => (#[(.slice A_p1_Cells p1.Cells.length c_p1_Cells), (iv p1.South.e0), (iv p1.South.e1), (iv p1.South.e2), (iv p1.South.e3), (iv p1.South.e4), (iv p1.South.e5), (iv p1.South.e6), (iv p1.South.e7), (iv p1.North.e0), (iv p1.North.e1), (iv p1.North.e2), (iv p1.North.e3), (iv p1.North.e4), (iv p1.North.e5), (iv p1.North.e6), (iv p1.North.e7), (iv p1.West), (iv p1.East)] : Array Value)[1 + z_.toNat * 1]? = some (iv (A8_Int.get p1.South z_))) h2088 (by kernel_rfl) (by kernel_rfl) (by kernel_rfl) (by kernel_rfl) (by kernel_rfl) (by kernel_rfl) (by kernel_rfl) (by kernel_rfl)), trivial⟩, forallC ?_ (forallC ?_ (forallN))⟩
       ·
        refine seg 3 [] [0, 2, 4, 7, 33, 34, 39] [(0, (.pointer (some ⟨g_p0, 0, none⟩))), (2, (iv p2)), (4, (pt g1312)), (7, (iv x1907)), (33, (iv p0.width)), (34, (iv x1907)), (39, (.bool (p2 == 0)))] [] (fun fb => by kernel_rfl) rfl trivial ?_
        refine WL.setB 39 h2052 rfl ?_
        refine segF 13 [.v (.slice A_p0_edges_South p0.edges.South.length c_p0_edges_South), .v (iv (A8_Int.get p1.South x1907))] [0, 2, 4, 7, 33, 34, 39, 44, 45, 49] [(0, (.pointer (some ⟨g_p0, 0, none⟩))), (2, (iv p2)), (4, (pt g1312)), (7, (iv x1907)), (33, (iv p0.width)), (34, (iv x1907)), (39, (.bool true)), (44, (.slice A_p0_edges_South p0.edges.South.length c_p0_edges_South)), (45, (iv x1907)), (49, (iv (A8_Int.get p1.South x1907)))] [.idx (some ⟨0, 0, none⟩) x1907 8] [0, 1] [(7, ⟨g_p0, 5, none⟩, (.slice A_p0_edges_South p0.edges.South.length c_p0_edges_South)), (12, (flatA ⟨g1312, 1, none⟩ (x1907.toNat * 1)), (iv (A8_Int.get p1.South x1907)))] (fun fb => by kernel_rfl) rfl ⟨⟨h2088.1, h2088.2, rfl⟩, trivial⟩ rfl ?_
        obtain ⟨t2089, ht2090, hx2051⟩ := bind_some hx2051
        refine WL.call (some 50) 68 #[(.slice A_p0_edges_South p0.edges.South.length c_p0_edges_South), (iv x1907), (iv (A8_Int.get p1.South x1907))] (fun fb => by kernel_rfl) (fill_at_calls p0.edges.South x1907 (A8_Int.get p1.South x1907) A_p0_edges_South c_p0_edges_South t2089 _ (hS2086.rd 5) ht2090) (fun v w2091 hR2092 => ?_)
        obtain ⟨rfl, hk_⟩ := hR2092
        have hS2093 := hS2086.keepN hk_
        refine ⟨trivial, ?_⟩
        refine seg 17 [] [0, 2, 4, 7, 33, 34, 53] [(0, (.pointer (some ⟨g_p0, 0, none⟩))), (2, (iv p2)), (4, (pt g1312)), (7, (iv x1907)), (33, (iv p0.width)), (34, (iv x1907)), (53, (.bool (!t2089)))] [] (fun fb => by kernel_rfl) rfl trivial ?_
        obtain ⟨x2100, hx2101, hx2051⟩ := bind_some hx2051
        refine WL.cutW (T := Bool) 39 (fun t => [(0, (.pointer (some ⟨g_p0, 0, none⟩))), (2, (iv p2)), (4, (pt g1312)), (33, (iv p0.width)), (34, (iv x1907)), (75, (.bool t))]) (fun t w1 => (St NoS w w1 [blk g_p0 (.cells #[(.slice A_p0_rows p0.rows.length c_p0_rows), (iv p0.width), (iv p0.height), (.slice A_p0_edges_North p0.edges.North.length c_p0_edges_North), (.slice A_p0_edges_East p0.edges.East.length c_p0_edges_East), (.slice A_p0_edges_South p0.edges.South.length c_p0_edges_South), (.slice A_p0_edges_West p0.edges.West.length c_p0_edges_West)] 84 (0, 0)), rowR encN_Row A_p0_rows c_p0_rows (tag H_p0_rows p0.rows), nestO subN_Row H_p0_rows p0.rows, rowR encInt A_p0_edges_North c_p0_edges_North p0.edges.North, rowR encInt A_p0_edges_East c_p0_edges_East p0.edges.East, rowR encInt A_p0_edges_South c_p0_edges_South p0.edges.South, rowR encInt A_p0_edges_West c_p0_edges_West p0.edges.West, rowR encInt A_p1_Cells c_p1_Cells p1.Cells] [blk g1312 (.cells #[(.slice A_p1_Cells p1.Cells.length c_p1_Cells), (iv p1.South.e0), (iv p1.South.e1), (iv p1.South.e2), (iv p1.South.e3), (iv p1.South.e4), (iv p1.South.e5), (iv p1.South.e6), (iv p1.South.e7), (iv p1.North.e0), (iv p1.North.e1), (iv p1.North.e2), (iv p1.North.e3), (iv p1.North.e4), (iv p1.North.e5), (iv p1.North.e6), (iv p1.North.e7), (iv p1.West), (iv p1.East)] 88 (0, 0))] ∧ x2100 = t) ∧ CellsOK [] w1) (fun K => ?_) ?_
        ·
         rcases br_some hx2101 with ⟨h2102, hx2101⟩ | ⟨h2102, hx2101⟩
         ·
          refine WL.setB 53 h2102 rfl ?_
          refine seg 39 [] [0, 2, 4, 33, 34, 75] [(0, (.pointer (some ⟨g_p0, 0, none⟩))), (2, (iv p2)), (4, (pt g1312)), (33, (iv p0.width)), (34, (iv x1907)), (75, (.bool true))] [] (fun fb => by kernel_rfl) rfl trivial ?_
          injection hx2101 with hx2101
          exact WL.to K true [0, 2, 4, 33, 34, 75] rfl ⟨⟨(hS2093.subR [0, 1, 2, 3, 4, 5, 6, 7]).sub [0] (by decide), hx2101.symm⟩, trivial⟩
         refine WL.setB 53 h2102 rfl ?_
         refine seg 25 [.v (iv p0.height)] [0, 2, 4, 7, 33, 34, 53, 61] [(0, (.pointer (some ⟨g_p0, 0, none⟩))), (2, (iv p2)), (4, (pt g1312)), (7, (iv x1907)), (33, (iv p0.width)), (34, (iv x1907)), (53, (.bool false)), (61, (.bool (p2 == (w64 (p0.height - 1)))))] [.cell ⟨g_p0, 2, none⟩ (iv p0.height)] (fun fb => by kernel_rfl) rfl ⟨blk_cell (hS2093.rd 0).1 2 rfl, trivial⟩ ?_
         refine WL.setB 61 h2059 rfl ?_
         refine seg 35 [.v (.slice A_p0_edges_North p0.edges.North.length c_p0_edges_North), .v (iv (A8_Int.get p1.North x1907))] [0, 2, 4, 33, 34, 53, 61, 66, 67, 71] [(0, (.pointer (some ⟨g_p0, 0, none⟩))), (2, (iv p2)), (4, (pt g1312)), (33, (iv p0.width)), (34, (iv x1907)), (53, (.bool false)), (61, (.bool true)), (66, (.slice A_p0_edges_North p0.edges.North.length c_p0_edges_North)), (67, (iv x1907)), (71, (iv (A8_Int.get p1.North x1907)))] [.idx (some ⟨0, 0, none⟩) x1907 8, .cell ⟨g_p0, 3, none⟩ (.slice A_p0_edges_North p0.edges.North.length c_p0_edges_North), .cell (flatA ⟨g1312, 9, none⟩ (x1907.toNat * 1)) (iv (A8_Int.get p1.North x1907))] (fun fb => by kernel_rfl) rfl ⟨⟨h2088.1, h2088.2, rfl⟩, blk_cell (hS2093.rd 0).1 3 rfl, hS2093.cell 0 rfl _ (cases8 (Q := fun z_ => (#[(.slice A_p1_Cells p1.Cells.length c_p1_Cells), (iv p1.South.e0), (iv p1.South.e1), (iv p1.South.e2), (iv p1.South.e3), (iv p1.South.e4), (iv p1.South.e5), (iv p1.South.e6), (iv p1.South.e7), (iv p1.North.e0), (iv p1.North.e1), (iv p1.North.e2), (iv p1.North.e3), (iv p1.North.e4), (iv p1.North.e5), (iv p1.North.e6), (iv p1.North.e7), (iv p1.West), (iv p1.East)] : Array Value)[9 + z_.toNat * 1]? = some (iv (A8_Int.get p1.North z_))) h2088 (by kernel_rfl) (by kernel_rfl) (by kernel_rfl) (by kernel_rfl) (by kernel_rfl) (by kernel_rfl) (by kernel_rfl) (by kernel_rfl)), trivial⟩ ?_
         obtain ⟨t2103, ht2104, hx2101⟩ := bind_some hx2101
         refine WL.call (some 72) 68 #[(.slice A_p0_edges_North p0.edges.North.length c_p0_edges_North), (iv x1907), (iv (A8_Int.get p1.North x1907))] (fun fb => by kernel_rfl) (fill_at_calls p0.edges.North x1907 (A8_Int.get p1.North x1907) A_p0_edges_North c_p0_edges_North t2103 _ (hS2093.rd 3) ht2104) (fun v w2105 hR2106 => ?_)
         obtain ⟨rfl, hk_⟩ := hR2106
         have hS2107 := hS2093.keepN hk_
         refine ⟨trivial, ?_⟩
         refine seg 39 [] [0, 2, 4, 33, 34, 75] [(0, (.pointer (some ⟨g_p0, 0, none⟩))), (2, (iv p2)), (4, (pt g1312)), (33, (iv p0.width)), (34, (iv x1907)), (75, (.bool (!t2103)))] [] (fun fb => by kernel_rfl) rfl trivial ?_
         injection hx2101 with hx2101
         exact WL.to K (!t2103) [0, 2, 4, 33, 34, 75] rfl ⟨⟨(hS2107.subR [0, 1, 2, 3, 4, 5, 6, 7]).sub [0] (by decide), hx2101.symm⟩, trivial⟩
        rintro y2108 w2110 ⟨⟨hS2111, hq2109⟩, hF2112⟩
        subst hq2109
        refine WL.done rfl ?_
        injection hx2051 with hx2051
        exact WX.to Kx2050 x2100 [0, 2, 4, 33, 34, 75] rfl ⟨(hS2111.subR [0, 1, 2, 3, 4, 5, 6, 7]).sub [0] (by decide), hx2051.symm⟩
       refine seg 3 [] [0, 2, 4, 7, 33, 34, 39] [(0, (.pointer (some ⟨g_p0, 0, none⟩))), (2, (iv p2)), (4, (pt g1312)), (7, (iv x1907)), (33, (iv p0.width)), (34, (iv x1907)), (39, (.bool (p2 == 0)))] [] (fun fb => by kernel_rfl) rfl trivial ?_
       refine WL.setB 39 h2052 rfl ?_
       refine segF 13 [.v (.slice A_p0_edges_South p0.edges.South.length c_p0_edges_South), .v (iv (A8_Int.get p1.South x1907))] [0, 2, 4, 7, 33, 34, 39, 44, 45, 49] [(0, (.pointer (some ⟨g_p0, 0, none⟩))), (2, (iv p2)), (4, (pt g1312)), (7, (iv x1907)), (33, (iv p0.width)), (34, (iv x1907)), (39, (.bool true)), (44, (.slice A_p0_edges_South p0.edges.South.length c_p0_edges_South)), (45, (iv x1907)), (49, (iv (A8_Int.get p1.South x1907)))] [.idx (some ⟨0, 0, none⟩) x1907 8] [0, 1] [(7, ⟨g_p0, 5, none⟩, (.slice A_p0_edges_South p0.edges.South.length c_p0_edges_South)), (12, (flatA ⟨g1312, 1, none⟩ (x1907.toNat * 1)), (iv (A8_Int.get p1.South x1907)))] (fun fb => by kernel_rfl) rfl ⟨⟨h2088.1, h2088.2, rfl⟩, trivial⟩ rfl ?_
       obtain ⟨t2113, ht2114, hx2051⟩ := bind_some hx2051
       refine WL.call (some 50) 68 #[(.slice A_p0_edges_South p0.edges.South.length c_p0_edges_South), (iv x1907), (iv (A8_Int.get p1.South x1907))] (fun fb => by kernel_rfl) (fill_at_calls p0.edges.South x1907 (A8_Int.get p1.South x1907) A_p0_edges_South c_p0_edges_South t2113 _ (hS2086.rd 5) ht2114) (fun v w2115 hR2116 => ?_)
       obtain ⟨rfl, hk_⟩ := hR2116
       have hS2117 := hS2086.keepN hk_
       refine ⟨trivial, ?_⟩
       refine seg 17 [] [0, 2, 4, 7, 33, 34, 53] [(0, (.pointer (some ⟨g_p0, 0, none⟩))), (2, (iv p2)), (4, (pt g1312)), (7, (iv x1907)), (33, (iv p0.width)), (34, (iv x1907)), (53, (.bool (!t2113)))] [] (fun fb => by kernel_rfl) rfl trivial ?_
       obtain ⟨x2124, hx2125, hx2051⟩ := bind_some hx2051
       refine WL.cutW (T := Bool) 39 (fun t => [(0, (.pointer (some ⟨g_p0, 0, none⟩))), (2, (iv p2)), (4, (pt g1312)), (33, (iv p0.width)), (34, (iv x1907)), (75, (.bool t))]) (fun t w1 => (St NoS w w1 [blk g_p0 (.cells #[(.slice A_p0_rows p0.rows.length c_p0_rows), (iv p0.width), (iv p0.height), (.slice A_p0_edges_North p0.edges.North.length c_p0_edges_North), (.slice A_p0_edges_East p0.edges.East.length c_p0_edges_East), (.slice A_p0_edges_South p0.edges.South.length c_p0_edges_South), (.slice A_p0_edges_West p0.edges.West.length c_p0_edges_West)] 84 (0, 0)), rowR encN_Row A_p0_rows c_p0_rows (tag H_p0_rows p0.rows), nestO subN_Row H_p0_rows p0.rows, rowR encInt A_p0_edges_North c_p0_edges_North p0.edges.North, rowR encInt A_p0_edges_East c_p0_edges_East p0.edges.East, rowR encInt A_p0_edges_South c_p0_edges_South p0.edges.South, rowR encInt A_p0_edges_West c_p0_edges_West p0.edges.West, rowR encInt A_p1_Cells c_p1_Cells p1.Cells] [blk g1312 (.cells #[(.slice A_p1_Cells p1.Cells.length c_p1_Cells), (iv p1.South.e0), (iv p1.South.e1), (iv p1.South.e2), (iv p1.South.e3), (iv p1.South.e4), (iv p1.South.e5), (iv p1.South.e6), (iv p1.South.e7), (iv p1.North.e0), (iv p1.North.e1), (iv p1.North.e2), (iv p1.North.e3), (iv p1.North.e4), (iv p1.North.e5), (iv p1.North.e6), (iv p1.North.e7), (iv p1.West), (iv p1.East)] 88 (0, 0))] ∧ x2124 = t) ∧ CellsOK [] w1) (fun K => ?_) ?_
       ·
        rcases br_some hx2125 with ⟨h2126, hx2125⟩ | ⟨h2126, hx2125⟩
        ·
         refine WL.setB 53 h2126 rfl ?_
         refine seg 39 [] [0, 2, 4, 33, 34, 75] [(0, (.pointer (some ⟨g_p0, 0, none⟩))), (2, (iv p2)), (4, (pt g1312)), (33, (iv p0.width)), (34, (iv x1907)), (75, (.bool true))] [] (fun fb => by kernel_rfl) rfl trivial ?_
         injection hx2125 with hx2125
         exact WL.to K true [0, 2, 4, 33, 34, 75] rfl ⟨⟨(hS2117.subR [0, 1, 2, 3, 4, 5, 6, 7]).sub [0] (by decide), hx2125.symm⟩, trivial⟩
        refine WL.setB 53 h2126 rfl ?_
        refine seg 25 [.v (iv p0.height)] [0, 2, 4, 7, 33, 34, 53, 61] [(0, (.pointer (some ⟨g_p0, 0, none⟩))), (2, (iv p2)), (4, (pt g1312)), (7, (iv x1907)), (33, (iv p0.width)), (34, (iv x1907)), (53, (.bool false)), (61, (.bool (p2 == (w64 (p0.height - 1)))))] [.cell ⟨g_p0, 2, none⟩ (iv p0.height)] (fun fb => by kernel_rfl) rfl ⟨blk_cell (hS2117.rd 0).1 2 rfl, trivial⟩ ?_
        refine WL.setB 61 h2059 rfl ?_
        refine seg 35 [.v (iv (A8_Int.get p1.North x1907)), .v (.slice A_p0_edges_North p0.edges.North.length c_p0_edges_North)] [0, 2, 4, 33, 34, 53, 61, 66, 67, 71] [(0, (.pointer (some ⟨g_p0, 0, none⟩))), (2, (iv p2)), (4, (pt g1312)), (33, (iv p0.width)), (34, (iv x1907)), (53, (.bool false)), (61, (.bool true)), (66, (.slice A_p0_edges_North p0.edges.North.length c_p0_edges_North)), (67, (iv x1907)), (71, (iv (A8_Int.get p1.North x1907)))] [.idx (some ⟨0, 0, none⟩) x1907 8, .cell (flatA ⟨g1312, 9, none⟩ (x1907.toNat * 1)) (iv (A8_Int.get p1.North x1907)), .cell ⟨g_p0, 3, none⟩ (.slice A_p0_edges_North p0.edges.North.length c_p0_edges_North)] (fun fb => by kernel_rfl) rfl ⟨⟨h2088.1, h2088.2, rfl⟩, hS2117.cell 0 rfl _ (cases8 (Q := fun z_ => (#[(.slice A_p1_Cells p1.Cells.length c_p1_Cells), (iv p1.South.e0), (iv p1.South.e1), (iv p1.South.e2), (iv p1.South.e3), (iv p1.South.e4), (iv p1.South.e5), (iv p1.South.e6), (iv p1.South.e7), (iv p1.North.e0), (iv p1.North.e1), (iv p1.North.e2), (iv p1.North.e3), (iv p1.North.e4), (iv p1.North.e5), (iv p1.North.e6), (iv p1.North.e7), (iv p1.West), (iv p1.East)] : Array Value)[9 + z_.toNat * 1]? = some (iv (A8_Int.get p1.North z_))) h2088 (by kernel_rfl) (by kernel_rfl) (by kernel_rfl) (by kernel_rfl) (by kernel_rfl) (by kernel_rfl) (by kernel_rfl) (by kernel_rfl)), blk_cell (hS2117.rd 0).1 3 rfl, trivial⟩ ?_
        obtain ⟨t2127, ht2128, hx2125⟩ := bind_some hx2125
        refine WL.call (some 72) 68 #[(.slice A_p0_edges_North p0.edges.North.length c_p0_edges_North), (iv x1907), (iv (A8_Int.get p1.North x1907))] (fun fb => by kernel_rfl) (fill_at_calls p0.edges.North x1907 (A8_Int.get p1.North x1907) A_p0_edges_North c_p0_edges_North t2127 _ (hS2117.rd 3) ht2128) (fun v w2129 hR2130 => ?_)
        obtain ⟨rfl, hk_⟩ := hR2130
        have hS2131 := hS2117.keepN hk_
        refine ⟨trivial, ?_⟩
        refine seg 39 [] [0, 2, 4, 33, 34, 75] [(0, (.pointer (some ⟨g_p0, 0, none⟩))), (2, (iv p2)), (4, (pt g1312)), (33, (iv p0.width)), (34, (iv x1907)), (75, (.bool (!t2127)))] [] (fun fb => by kernel_rfl) rfl trivial ?_
        injection hx2125 with hx2125
        exact WL.to K (!t2127) [0, 2, 4, 33, 34, 75] rfl ⟨⟨(hS2131.subR [0, 1, 2, 3, 4, 5, 6, 7]).sub [0] (by decide), hx2125.symm⟩, trivial⟩
       rintro y2132 w2134 ⟨⟨hS2135, hq2133⟩, hF2136⟩
       subst hq2133
       refine WL.done rfl ?_
       injection hx2051 with hx2051
       exact WX.to Kx2050 x2124 [0, 2, 4, 33, 34, 75] rfl ⟨(hS2135.subR [0, 1, 2, 3, 4, 5, 6, 7]).sub [0] (by decide), hx2051.symm⟩
      obtain ⟨h2148, hx2051⟩ := as_some hx2051
      refine WC.regionD ([(7, ⟨g_p0, 5, none⟩, (.slice A_p0_edges_South p0.edges.South.length c_p0_edges_South)), (12, (flatA ⟨g1312, 1, none⟩ (x1907.toNat * 1)), (iv (A8_Int.get p1.South x1907)))], [0, 1, 2, 3, 4, 5, 6, 7, 8, 9, 10, 11, 12, 14, 15, 16, 17, 18, 19, 20, 22, 23, 24, 25, 26, 27, 28, 30, 31, 32, 33, 36, 37, 38], [[], [0], [0, 1], [0, 1, 2], [0, 1, 2, 3], [0, 1, 2, 3, 4], [0, 1, 2, 3, 4, 5], [0, 1, 2, 3, 4, 5, 6], [0, 1, 2], [0, 1, 2], [0, 1, 2], [0, 1, 2, 9, 10], [0, 1, 2, 9, 10, 11], [0, 1, 2, 3, 4, 5, 6, 7, 8, 9, 10, 11, 12], [0, 1, 2, 3, 4, 5, 6, 7, 8, 9, 10, 11, 12, 13], [0, 1, 2, 3, 4, 5, 6, 7, 8, 9, 10, 11, 12, 13, 14], [0, 1, 2, 3, 4, 5, 6, 7, 8, 9, 10, 11, 12, 13, 14, 15], [0, 1, 2, 3, 4, 5, 6, 7, 8, 9, 10, 11, 12, 13, 14, 15, 16], [0, 1, 2, 3, 4, 5, 6, 7, 8, 9, 10, 11, 12, 13, 14, 15, 16], [0, 1, 2, 3, 4, 5, 6, 7, 8, 9, 10, 11, 12, 13, 14, 15, 16, 18], [0, 1, 2, 3, 4, 5, 6, 7, 8, 9, 10, 11, 12, 13, 14, 15, 16, 18, 19], [0, 1, 2, 3, 4, 5, 6, 7, 8, 9, 10, 11, 12, 13, 14, 15, 16, 18, 19, 20], [0, 1, 2, 3, 4, 5, 6, 7, 8, 9, 10, 11, 12, 13, 14, 15, 16, 18, 19, 20, 21], [0, 1, 2, 3, 4, 5, 6, 7, 8, 9, 10, 11, 12, 13, 14, 15, 16, 17, 18, 19, 20, 21, 22], [0, 1, 2, 3, 4, 5, 6, 7, 8, 9, 10, 11, 12, 13, 14, 15, 16, 17, 18, 19, 20, 21, 22, 23], [0, 1, 2, 3, 4, 5, 6, 7, 8, 9, 10, 11, 12, 13, 14, 15, 16, 17, 18, 19, 20, 21, 22, 23, 24], [0, 1, 2, 3, 4, 5, 6, 7, 8, 9, 10, 11, 12, 13, 14, 15, 16, 17, 18, 19, 20, 21, 22, 23, 24, 25], [0, 1, 2, 3, 4, 5, 6, 7, 8, 9, 10, 11, 12, 13, 14, 15, 16, 17, 18, 19, 20, 21, 22, 23, 24, 25, 26], [0, 1, 2, 3, 4, 5, 6, 7, 8, 9, 10, 11, 12, 13, 14, 15, 16, 17, 18, 19, 20, 21, 22, 23, 24, 25, 26, 27], [0, 1, 2, 3, 4, 5, 6, 7, 8, 9, 10, 11, 12, 13, 14, 15, 16, 17, 18, 19, 20, 21, 22, 23, 24, 25, 26, 27, 28], [0, 1, 2, 3, 4, 5, 6, 7, 8, 9, 10, 11, 12, 13, 14, 15, 16, 17, 18, 19, 20, 21, 22, 23, 24], [0, 1, 2, 3, 4, 5, 6, 7, 8, 9, 10, 11, 12, 13, 14, 15, 16, 17, 18, 19, 20, 21, 22, 23, 24], [0, 1, 2, 3, 4, 5, 6, 7, 8, 9, 10, 11, 12, 13, 14, 15, 16, 17, 18, 19, 20, 21, 22, 23, 24], [0, 1, 2, 3, 4, 5, 6, 7, 8, 9, 10, 11, 12, 13, 14, 15, 16, 17, 18, 19, 20, 21, 22, 23, 24, 31, 32], [0, 1, 2, 3, 4, 5, 6, 7, 8, 9, 10, 11, 12, 13, 14, 15, 16, 17, 18, 19, 20, 21, 22, 23, 24, 31, 32, 33], [0, 1, 2, 3, 4, 5, 6, 7, 8, 9, 10, 11, 12, 13, 14, 15, 16, 17, 18, 19, 20, 21, 22, 23, 24, 25, 26, 27, 28, 29, 30, 31, 32, 33, 34], [0, 1, 2, 3, 4, 5, 6, 7, 8, 9, 10, 11, 12, 13, 14, 15, 16, 17, 18, 19, 20, 21, 22, 23, 24, 25, 26, 27, 28, 29, 30, 31, 32, 33, 34, 35], [0, 1, 2, 3, 4, 5, 6, 7, 8, 9, 10, 11, 12, 13, 14, 15, 16, 17, 18, 19, 20, 21, 22, 23, 24, 25, 26, 27, 28, 29, 30, 31, 32, 33, 34, 35, 36], [0, 1, 2, 3, 4, 5, 6, 7, 8, 9, 10, 11, 12, 13, 14, 15, 16, 17, 18, 19, 20, 21, 22, 23, 24, 25, 26, 27, 28, 29, 30, 31, 32, 33, 34, 35, 36, 37]]) [[0, 1, 2, 3, 4, 5, 6, 7, 8, 9, 10, 11, 12, 13, 14, 15, 16, 17, 18, 19, 20, 21, 22, 23, 24, 25, 26, 27, 28, 30, 31, 32, 33, 29, 34, 35, 36, 37, 38], [0, 1, 2, 3, 4, 5, 6, 7, 8, 9, 10, 11, 12, 13, 14, 15, 16, 17, 18, 19, 20, 21, 22, 23, 24, 25, 26, 27, 28, 30, 31, 32, 33, 34, 29, 35, 36, 37, 38]] (by kernel_rfl) (by kernel_rfl) (NoPanic.seq (NoPanic.block (NoPanic.seq (NoPanic.seq (NoPanic.block (NoPanic.seq (NoPanic.body))))))) ?_
      have hS2146 := hS1912.drew
      revert hS2146
      generalize World.drew w1911 = w2145
      intro hS2146
      refine ⟨⟨blk_cell (hS2146.rd 0).1 5 rfl, hS2146.cell 0 rfl _ (cases8 (Q := fun z_ => (#[(.slice A_p1_Cells p1.Cells.length c_p1_Cells), (iv p1.South.e0), (iv p1.South.e1), (iv p1.South.e2), (iv p1.South.e3), (iv p1.South.e4), (iv p1.South.e5), (iv p1.South.e6), (iv p1.South.e7), (iv p1.North.e0), (iv p1.North.e1), (iv p1.North.e2), (iv p1.North.e3), (iv p1.North.e4), (iv p1.North.e5), (iv p1.North.e6), (iv p1.North.e7), (iv p1.West), (iv p1.East)] : Array Value)[1 + z_.toNat * 1]? = some (iv (A8_Int.get p1.South z_))) h2148 (by kernel_rfl) (by kernel_rfl) (by kernel_rfl) (by kernel_rfl) (by kernel_rfl) (by kernel_rfl) (by kernel_rfl) (by kernel_rfl)), trivial⟩, forallC ?_ (forallC ?_ (forallN))⟩
      ·
       refine seg 3 [] [0, 2, 4, 7, 33, 34, 39] [(0, (.pointer (some ⟨g_p0, 0, none⟩))), (2, (iv p2)), (4, (pt g1312)), (7, (iv x1907)), (33, (iv p0.width)), (34, (iv x1907)), (39, (.bool (p2 == 0)))] [] (fun fb => by kernel_rfl) rfl trivial ?_
       refine WL.setB 39 h2052 rfl ?_
       refine segF 13 [.v (.slice A_p0_edges_South p0.edges.South.length c_p0_edges_South), .v (iv (A8_Int.get p1.South x1907))] [0, 2, 4, 7, 33, 34, 39, 44, 45, 49] [(0, (.pointer (some ⟨g_p0, 0, none⟩))), (2, (iv p2)), (4, (pt g1312)), (7, (iv x1907)), (33, (iv p0.width)), (34, (iv x1907)), (39, (.bool true)), (44, (.slice A_p0_edges_South p0.edges.South.length c_p0_edges_South)), (45, (iv x1907)), (49, (iv (A8_Int.get p1.South x1907)))] [.idx (some ⟨0, 0, none⟩) x1907 8] [0, 1] [(7, ⟨g_p0, 5, none⟩, (.slice A_p0_edges_South p0.edges.South.length c_p0_edges_South)), (12, (flatA ⟨g1312, 1, none⟩ (x1907.toNat * 1)), (iv (A8_Int.get p1.South x1907)))] (fun fb => by kernel_rfl) rfl ⟨⟨h2148.1, h2148.2, rfl⟩, trivial⟩ rfl ?_
       obtain ⟨t2149, ht2150, hx2051⟩ := bind_some hx2051
       refine WL.call (some 50) 68 #[(.slice A_p0_edges_South p0.edges.South.length c_p0_edges_South), (iv x1907), (iv (A8_Int.get p1.South x1907))] (fun fb => by kernel_rfl) (fill_at_calls p0.edges.South x1907 (A8_Int.get p1.South x1907) A_p0_edges_South c_p0_edges_South t2149 _ (hS2146.rd 5) ht2150) (fun v w2151 hR2152 => ?_)
       obtain ⟨rfl, hk_⟩ := hR2152
       have hS2153 := hS2146.keepN hk_
       refine ⟨trivial, ?_⟩
       refine seg 17 [] [0, 2, 4, 7, 33, 34, 53] [(0, (.pointer (some ⟨g_p0, 0, none⟩))), (2, (iv p2)), (4, (pt g1312)), (7, (iv x1907)), (33, (iv p0.width)), (34, (iv x1907)), (53, (.bool (!t2149)))] [] (fun fb => by kernel_rfl) rfl trivial ?_
       refine WL.cutV (T := Bool) 39 (fun t => [(75, (.bool t)), (0, (.pointer (some ⟨g_p0, 0, none⟩))), (2, (iv p2)), (4, (pt g1312)), (33, (iv p0.width)), (34, (iv x1907))]) (fun t => (!t2149) = t) (fun K => ?_) ?_
       ·
        rcases Bool.eq_false_or_eq_true (!t2149) with h2154 | h2154
        ·
         refine WL.setB 53 h2154 rfl ?_
         refine seg 39 [] [0, 2, 4, 33, 34, 75] [(0, (.pointer (some ⟨g_p0, 0, none⟩))), (2, (iv p2)), (4, (pt g1312)), (33, (iv p0.width)), (34, (iv x1907)), (75, (.bool true))] [] (fun fb => by kernel_rfl) rfl trivial ?_
         exact WL.toV K true [75, 0, 2, 4, 33, 34] rfl (by first | (rw [h2154]; done) | (rw [h2154]; rfl))
        refine WL.setB 53 h2154 rfl ?_
        refine seg 25 [.v (iv p0.height)] [0, 2, 4, 7, 33, 34, 53, 61] [(0, (.pointer (some ⟨g_p0, 0, none⟩))), (2, (iv p2)), (4, (pt g1312)), (7, (iv x1907)), (33, (iv p0.width)), (34, (iv x1907)), (53, (.bool false)), (61, (.bool (p2 == (w64 (p0.height - 1)))))] [.cell ⟨g_p0, 2, none⟩ (iv p0.height)] (fun fb => by kernel_rfl) rfl ⟨blk_cell (hS2153.rd 0).1 2 rfl, trivial⟩ ?_
        refine WL.setB 61 h2059 rfl ?_
        refine seg 39 [] [0, 2, 4, 33, 34, 75] [(0, (.pointer (some ⟨g_p0, 0, none⟩))), (2, (iv p2)), (4, (pt g1312)), (33, (iv p0.width)), (34, (iv x1907)), (75, (.bool false))] [] (fun fb => by kernel_rfl) rfl trivial ?_
        exact WL.toV K false [75, 0, 2, 4, 33, 34] rfl (by first | (rw [h2154]; done) | (rw [h2154]; rfl))
       rintro b2155 rfl
       refine WL.done rfl ?_
       injection hx2051 with hx2051
       exact WX.to Kx2050 (!t2149) [0, 2, 4, 33, 34, 75] rfl ⟨(hS2153.subR [0, 1, 2, 3, 4, 5, 6, 7]).sub [0] (by decide), hx2051.symm⟩
      refine seg 3 [] [0, 2, 4, 7, 33, 34, 39] [(0, (.pointer (some ⟨g_p0, 0, none⟩))), (2, (iv p2)), (4, (pt g1312)), (7, (iv x1907)), (33, (iv p0.width)), (34, (iv x1907)), (39, (.bool (p2 == 0)))] [] (fun fb => by kernel_rfl) rfl trivial ?_
      refine WL.setB 39 h2052 rfl ?_
      refine segF 13 [.v (.slice A_p0_edges_South p0.edges.South.length c_p0_edges_South), .v (iv (A8_Int.get p1.South x1907))] [0, 2, 4, 7, 33, 34, 39, 44, 45, 49] [(0, (.pointer (some ⟨g_p0, 0, none⟩))), (2, (iv p2)), (4, (pt g1312)), (7, (iv x1907)), (33, (iv p0.width)), (34, (iv x1907)), (39, (.bool true)), (44, (.slice A_p0_edges_South p0.edges.South.length c_p0_edges_South)), (45, (iv x1907)), (49, (iv (A8_Int.get p1.South x1907)))] [.idx (some ⟨0, 0, none⟩) x1907 8] [0, 1] [(7, ⟨g_p0, 5, none⟩, (.slice A_p0_edges_South p0.edges.South.length c_p0_edges_South)), (12, (flatA ⟨g1312, 1, none⟩ (x1907.toNat * 1)), (iv (A8_Int.get p1.South x1907)))] (fun fb => by kernel_rfl) rfl ⟨⟨h2148.1, h2148.2, rfl⟩, trivial⟩ rfl ?_
      obtain ⟨t2156, ht2157, hx2051⟩ := bind_some hx2051
      refine WL.call (some 50) 68 #[(.slice A_p0_edges_South p0.edges.South.length c_p0_edges_South), (iv x1907), (iv (A8_Int.get p1.South x1907))] (fun fb => by kernel_rfl) (fill_at_calls p0.edges.South x1907 (A8_Int.get p1.South x1907) A_p0_edges_South c_p0_edges_South t2156 _ (hS2146.rd 5) ht2157) (fun v w2158 hR2159 => ?_)
      obtain ⟨rfl, hk_⟩ := hR2159
      have hS2160 := hS2146.keepN hk_
      refine ⟨trivial, ?_⟩
      refine seg 17 [] [0, 2, 4, 7, 33, 34, 53] [(0, (.pointer (some ⟨g_p0, 0, none⟩))), (2, (iv p2)), (4, (pt g1312)), (7, (iv x1907)), (33, (iv p0.width)), (34, (iv x1907)), (53, (.bool (!t2156)))] [] (fun fb => by kernel_rfl) rfl trivial ?_
      refine WL.cutV (T := Bool) 39 (fun t => [(75, (.bool t)), (0, (.pointer (some ⟨g_p0, 0, none⟩))), (2, (iv p2)), (4, (pt g1312)), (33, (iv p0.width)), (34, (iv x1907))]) (fun t => (!t2156) = t) (fun K => ?_) ?_
      ·
       rcases Bool.eq_false_or_eq_true (!t2156) with h2161 | h2161
       ·
        refine WL.setB 53 h2161 rfl ?_
        refine seg 39 [] [0, 2, 4, 33, 34, 75] [(0, (.pointer (some ⟨g_p0, 0, none⟩))), (2, (iv p2)), (4, (pt g1312)), (33, (iv p0.width)), (34, (iv x1907)), (75, (.bool true))] [] (fun fb => by kernel_rfl) rfl trivial ?_
        exact WL.toV K true [75, 0, 2, 4, 33, 34] rfl (by first | (rw [h2161]; done) | (rw [h2161]; rfl))
       refine WL.setB 53 h2161 rfl ?_
       refine seg 25 [.v (iv p0.height)] [0, 2, 4, 7, 33, 34, 53, 61] [(0, (.pointer (some ⟨g_p0, 0, none⟩))), (2, (iv p2)), (4, (pt g1312)), (7, (iv x1907)), (33, (iv p0.width)), (34, (iv x1907)), (53, (.bool false)), (61, (.bool (p2 == (w64 (p0.height - 1)))))] [.cell ⟨g_p0, 2, none⟩ (iv p0.height)] (fun fb => by kernel_rfl) rfl ⟨blk_cell (hS2160.rd 0).1 2 rfl, trivial⟩ ?_
       refine WL.setB 61 h2059 rfl ?_
       refine seg 39 [] [0, 2, 4, 33, 34, 75] [(0, (.pointer (some ⟨g_p0, 0, none⟩))), (2, (iv p2)), (4, (pt g1312)), (33, (iv p0.width)), (34, (iv x1907)), (75, (.bool false))] [] (fun fb => by kernel_rfl) rfl trivial ?_
       exact WL.toV K false [75, 0, 2, 4, 33, 34] rfl (by first | (rw [h2161]; done) | (rw [h2161]; rfl))
      rintro b2162 rfl
      refine WL.done rfl ?_
      injection hx2051 with hx2051
      exact WX.to Kx2050 (!t2156) [0, 2, 4, 33, 34, 75] rfl ⟨(hS2160.subR [0, 1, 2, 3, 4, 5, 6, 7]).sub [0] (by decide), hx2051.symm⟩
     rcases br_some hx2051 with ⟨h2163, hx2051⟩ | ⟨h2163, hx2051⟩
     ·
      refine WC.regionD ([], [0, 1, 2, 3, 4, 5, 6, 7, 8, 9, 10, 11, 12, 14, 15, 16, 17, 18, 19, 20, 22, 23, 24, 25, 26, 27, 28, 30, 31, 32, 33, 36, 37, 38], [[], [0], [0, 1], [0, 1, 2], [0, 1, 2, 3], [0, 1, 2, 3, 4], [0, 1, 2, 3, 4, 5], [0, 1, 2, 3, 4, 5, 6], [0, 1, 2], [0, 1, 2], [0, 1, 2], [0, 1, 2, 9, 10], [0, 1, 2, 9, 10, 11], [0, 1, 2, 3, 4, 5, 6, 7, 8, 9, 10, 11, 12], [0, 1, 2, 3, 4, 5, 6, 7, 8, 9, 10, 11, 12, 13], [0, 1, 2, 3, 4, 5, 6, 7, 8, 9, 10, 11, 12, 13, 14], [0, 1, 2, 3, 4, 5, 6, 7, 8, 9, 10, 11, 12, 13, 14, 15], [0, 1, 2, 3, 4, 5, 6, 7, 8, 9, 10, 11, 12, 13, 14, 15, 16], [0, 1, 2, 3, 4, 5, 6, 7, 8, 9, 10, 11, 12, 13, 14, 15, 16], [0, 1, 2, 3, 4, 5, 6, 7, 8, 9, 10, 11, 12, 13, 14, 15, 16, 18], [0, 1, 2, 3, 4, 5, 6, 7, 8, 9, 10, 11, 12, 13, 14, 15, 16, 18, 19], [0, 1, 2, 3, 4, 5, 6, 7, 8, 9, 10, 11, 12, 13, 14, 15, 16, 18, 19, 20], [0, 1, 2, 3, 4, 5, 6, 7, 8, 9, 10, 11, 12, 13, 14, 15, 16, 18, 19, 20, 21], [0, 1, 2, 3, 4, 5, 6, 7, 8, 9, 10, 11, 12, 13, 14, 15, 16, 17, 18, 19, 20, 21, 22], [0, 1, 2, 3, 4, 5, 6, 7, 8, 9, 10, 11, 12, 13, 14, 15, 16, 17, 18, 19, 20, 21, 22, 23], [0, 1, 2, 3, 4, 5, 6, 7, 8, 9, 10, 11, 12, 13, 14, 15, 16, 17, 18, 19, 20, 21, 22, 23, 24], [0, 1, 2, 3, 4, 5, 6, 7, 8, 9, 10, 11, 12, 13, 14, 15, 16, 17, 18, 19, 20, 21, 22, 23, 24, 25], [0, 1, 2, 3, 4, 5, 6, 7, 8, 9, 10, 11, 12, 13, 14, 15, 16, 17, 18, 19, 20, 21, 22, 23, 24, 25, 26], [0, 1, 2, 3, 4, 5, 6, 7, 8, 9, 10, 11, 12, 13, 14, 15, 16, 17, 18, 19, 20, 21, 22, 23, 24, 25, 26, 27], [0, 1, 2, 3, 4, 5, 6, 7, 8, 9, 10, 11, 12, 13, 14, 15, 16, 17, 18, 19, 20, 21, 22, 23, 24, 25, 26, 27, 28], [0, 1, 2, 3, 4, 5, 6, 7, 8, 9, 10, 11, 12, 13, 14, 15, 16, 17, 18, 19, 20, 21, 22, 23, 24], [0, 1, 2, 3, 4, 5, 6, 7, 8, 9, 10, 11, 12, 13, 14, 15, 16, 17, 18, 19, 20, 21, 22, 23, 24], [0, 1, 2, 3, 4, 5, 6, 7, 8, 9, 10, 11, 12, 13, 14, 15, 16, 17, 18, 19, 20, 21, 22, 23, 24], [0, 1, 2, 3, 4, 5, 6, 7, 8, 9, 10, 11, 12, 13, 14, 15, 16, 17, 18, 19, 20, 21, 22, 23, 24, 31, 32], [0, 1, 2, 3, 4, 5, 6, 7, 8, 9, 10, 11, 12, 13, 14, 15, 16, 17, 18, 19, 20, 21, 22, 23, 24, 31, 32, 33], [0, 1, 2, 3, 4, 5, 6, 7, 8, 9, 10, 11, 12, 13, 14, 15, 16, 17, 18, 19, 20, 21, 22, 23, 24, 25, 26, 27, 28, 29, 30, 31, 32, 33, 34], [0, 1, 2, 3, 4, 5, 6, 7, 8, 9, 10, 11, 12, 13, 14, 15, 16, 17, 18, 19, 20, 21, 22, 23, 24, 25, 26, 27, 28, 29, 30, 31, 32, 33, 34, 35], [0, 1, 2, 3, 4, 5, 6, 7, 8, 9, 10, 11, 12, 13, 14, 15, 16, 17, 18, 19, 20, 21, 22, 23, 24, 25, 26, 27, 28, 29, 30, 31, 32, 33, 34, 35, 36], [0, 1, 2, 3, 4, 5, 6, 7, 8, 9, 10, 11, 12, 13, 14, 15, 16, 17, 18, 19, 20, 21, 22, 23, 24, 25, 26, 27, 28, 29, 30, 31, 32, 33, 34, 35, 36, 37]]) [[0, 1, 2, 3, 4, 5, 6, 7, 8, 9, 10, 11, 12, 13, 14, 15, 16, 17, 18, 19, 20, 21, 22, 23, 24, 25, 26, 27, 28, 30, 31, 32, 33, 29, 34, 35, 36, 37, 38], [0, 1, 2, 3, 4, 5, 6, 7, 8, 9, 10, 11, 12, 13, 14, 15, 16, 17, 18, 19, 20, 21, 22, 23, 24, 25, 26, 27, 28, 30, 31, 32, 33, 34, 29, 35, 36, 37, 38]] (by kernel_rfl) (by kernel_rfl) (NoPanic.seq (NoPanic.block (NoPanic.seq (NoPanic.seq (NoPanic.block (NoPanic.seq (NoPanic.body))))))) ?_
      have hS2171 := hS1912.drew
      revert hS2171
      generalize World.drew w1911 = w2170
      intro hS2171
      refine ⟨trivial, forallC ?_ (forallC ?_ (forallN))⟩
      ·
       refine seg 3 [] [0, 2, 4, 7, 33, 34, 39] [(0, (.pointer (some ⟨g_p0, 0, none⟩))), (2, (iv p2)), (4, (pt g1312)), (7, (iv x1907)), (33, (iv p0.width)), (34, (iv x1907)), (39, (.bool (p2 == 0)))] [] (fun fb => by kernel_rfl) rfl trivial ?_
       refine WL.setB 39 h2052 rfl ?_
       refine seg 25 [.v (iv p0.height)] [0, 2, 4, 7, 33, 34, 53, 61] [(0, (.pointer (some ⟨g_p0, 0, none⟩))), (2, (iv p2)), (4, (pt g1312)), (7, (iv x1907)), (33, (iv p0.width)), (34, (iv x1907)), (53, (.bool false)), (61, (.bool (p2 == (w64 (p0.height - 1)))))] [.cell ⟨g_p0, 2, none⟩ (iv p0.height)] (fun fb => by kernel_rfl) rfl ⟨blk_cell (hS2171.rd 0).1 2 rfl, trivial⟩ ?_
       refine WL.setB 61 h2163 rfl ?_
       refine seg 32 [] [0, 2, 4, 33, 34, 53, 61, 65, 67, 68, 69] [(0, (.pointer (some ⟨g_p0, 0, none⟩))), (2, (iv p2)), (4, (pt g1312)), (33, (iv p0.width)), (34, (iv x1907)), (53, (.bool false)), (61, (.bool true)), (65, (.pointer (some ⟨g_p0, 3, none⟩))), (67, (iv x1907)), (68, (iv x1907)), (69, (.pointer (some ⟨g1312, 9, none⟩)))] [] (fun fb => by kernel_rfl) rfl trivial ?_
       obtain ⟨h2172, hx2051⟩ := as_some hx2051
       refine seg 35 [.v (.slice A_p0_edges_North p0.edges.North.length c_p0_edges_North), .v (iv (A8_Int.get p1.North x1907))] [0, 2, 4, 33, 34, 53, 61, 66, 67, 71] [(0, (.pointer (some ⟨g_p0, 0, none⟩))), (2, (iv p2)), (4, (pt g1312)), (33, (iv p0.width)), (34, (iv x1907)), (53, (.bool false)), (61, (.bool true)), (66, (.slice A_p0_edges_North p0.edges.North.length c_p0_edges_North)), (67, (iv x1907)), (71, (iv (A8_Int.get p1.North x1907)))] [.idx (some ⟨0, 0, none⟩) x1907 8, .cell ⟨g_p0, 3, none⟩ (.slice A_p0_edges_North p0.edges.North.length c_p0_edges_North), .cell (flatA ⟨g1312, 9, none⟩ (x1907.toNat * 1)) (iv (A8_Int.get p1.North x1907))] (fun fb => by kernel_rfl) rfl ⟨⟨h2172.1, h2172.2, rfl⟩, blk_cell (hS2171.rd 0).1 3 rfl, hS2171.cell 0 rfl _ (cases8 (Q := fun z_ => (#[(.slice A_p1_Cells p1.Cells.length c_p1_Cells), (iv p1.South.e0), (iv p1.South.e1), (iv p1.South.e2), (iv p1.South.e3), (iv p1.South.e4), (iv p1.South.e5), (iv p1.South.e6), (iv p1.South.e7), (iv p1.North.e0), (iv p1.North.e1), (iv p1.North.e2), (iv p1.North.e3), (iv p1.North.e4), (iv p1.North.e5), (iv p1.North.e6), (iv p1.North.e7), (iv p1.West), (iv p1.East)] : Array Value)[9 + z_.toNat * 1]? = some (iv (A8_Int.get p1.North z_))) h2172 (by kernel_rfl) (by kernel_rfl) (by kernel_rfl) (by kernel_rfl) (by kernel_rfl) (by kernel_rfl) (by kernel_rfl) (by kernel_rfl)), trivial⟩ ?_
       obtain ⟨t2173, ht2174, hx2051⟩ := bind_some hx2051
       refine WL.call (some 72) 68 #[(.slice A_p0_edges_North p0.edges.North.length c_p0_edges_North), (iv x1907), (iv (A8_Int.get p1.North x1907))] (fun fb => by kernel_rfl) (fill_at_calls p0.edges.North x1907 (A8_Int.get p1.North x1907) A_p0_edges_North c_p0_edges_North t2173 _ (hS2171.rd 3) ht2174) (fun v w2175 hR2176 => ?_)
       obtain ⟨rfl, hk_⟩ := hR2176
       have hS2177 := hS2171.keepN hk_
       refine ⟨trivial, ?_⟩
       refine seg 39 [] [0, 2, 4, 33, 34, 75] [(0, (.pointer (some ⟨g_p0, 0, none⟩))), (2, (iv p2)), (4, (pt g1312)), (33, (iv p0.width)), (34, (iv x1907)), (75, (.bool (!t2173)))] [] (fun fb => by kernel_rfl) rfl trivial ?_
       refine WL.done rfl ?_
       injection hx2051 with hx2051
       exact WX.to Kx2050 (!t2173) [0, 2, 4, 33, 34, 75] rfl ⟨(hS2177.subR [0, 1, 2, 3, 4, 5, 6, 7]).sub [0] (by decide), hx2051.symm⟩
      refine seg 3 [] [0, 2, 4, 7, 33, 34, 39] [(0, (.pointer (some ⟨g_p0, 0, none⟩))), (2, (iv p2)), (4, (pt g1312)), (7, (iv x1907)), (33, (iv p0.width)), (34, (iv x1907)), (39, (.bool (p2 == 0)))] [] (fun fb => by kernel_rfl) rfl trivial ?_
      refine WL.setB 39 h2052 rfl ?_
      refine seg 25 [.v (iv p0.height)] [0, 2, 4, 7, 33, 34, 53, 61] [(0, (.pointer (some ⟨g_p0, 0, none⟩))), (2, (iv p2)), (4, (pt g1312)), (7, (iv x1907)), (33, (iv p0.width)), (34, (iv x1907)), (53, (.bool false)), (61, (.bool (p2 == (w64 (p0.height - 1)))))] [.cell ⟨g_p0, 2, none⟩ (iv p0.height)] (fun fb => by kernel_rfl) rfl ⟨blk_cell (hS2171.rd 0).1 2 rfl, trivial⟩ ?_
      refine WL.setB 61 h2163 rfl ?_
      refine seg 32 [] [0, 2, 4, 33, 34, 53, 61, 65, 67, 68, 69] [(0, (.pointer (some ⟨g_p0, 0, none⟩))), (2, (iv p2)), (4, (pt g1312)), (33, (iv p0.width)), (34, (iv x1907)), (53, (.bool false)), (61, (.bool true)), (65, (.pointer (some ⟨g_p0, 3, none⟩))), (67, (iv x1907)), (68, (iv x1907)), (69, (.pointer (some ⟨g1312, 9, none⟩)))] [] (fun fb => by kernel_rfl) rfl trivial ?_
      obtain ⟨h2178, hx2051⟩ := as_some hx2051
      refine seg 35 [.v (iv (A8_Int.get p1.North x1907)), .v (.slice A_p0_edges_North p0.edges.North.length c_p0_edges_North)] [0, 2, 4, 33, 34, 53, 61, 66, 67, 71] [(0, (.pointer (some ⟨g_p0, 0, none⟩))), (2, (iv p2)), (4, (pt g1312)), (33, (iv p0.width)), (34, (iv x1907)), (53, (.bool false)), (61, (.bool true)), (66, (.slice A_p0_edges_North p0.edges.North.length c_p0_edges_North)), (67, (iv x1907)), (71, (iv (A8_Int.get p1.North x1907)))] [.idx (some ⟨0, 0, none⟩) x1907 8, .cell (flatA ⟨g1312, 9, none⟩ (x1907.toNat * 1)) (iv (A8_Int.get p1.North x1907)), .cell ⟨g_p0, 3, none⟩ (.slice A_p0_edges_North p0.edges.North.length c_p0_edges_North)] (fun fb => by kernel_rfl) rfl ⟨⟨h2178.1, h2178.2, rfl⟩, hS2171.cell 0 rfl _ (cases8 (Q := fun z_ => (#[(.slice A_p1_Cells p1.Cells.length c_p1_Cells), (iv p1.South.e0), (iv p1.South.e1), (iv p1.South.e2), (iv p1.South.e3), (iv p1.South.e4), (iv p1.South.e5), (iv p1.South.e6), (iv p1.South.e7), (iv p1.North.e0), (iv p1.North.e1), (iv p1.North.e2), (iv p1.North.e3), (iv p1.North.e4), (iv p1.North.e5), (iv p1.North.e6), (iv p1.North.e7), (iv p1.West), (iv p1.East)] : Array Value)[9 + z_.toNat * 1]? = some (iv (A8_Int.get p1.North z_))) h2178 (by kernel_rfl) (by kernel_rfl) (by kernel_rfl) (by kernel_rfl) (by kernel_rfl) (by kernel_rfl) (by kernel_rfl) (by kernel_rfl)), blk_cell (hS2171.rd 0).1 3 rfl, trivial⟩ ?_
      obtain ⟨t2179, ht2180, hx2051⟩ := bind_some hx2051
      refine WL.call (some 72) 68 #[(.slice A_p0_edges_North p0.edges.North.length c_p0_edges_North), (iv x1907), (iv (A8_Int.get p1.North x1907))] (fun fb => by kernel_rfl) (fill_at_calls p0.edges.North x1907 (A8_Int.get p1.North x1907) A_p0_edges_North c_p0_edges_North t2179 _ (hS2171.rd 3) ht2180) (fun v w2181 hR2182 => ?_)
      obtain ⟨rfl, hk_⟩ := hR2182
      have hS2183 := hS2171.keepN hk_
      refine ⟨trivial, ?_⟩
      refine seg 39 [] [0, 2, 4, 33, 34, 75] [(0, (.pointer (some ⟨g_p0, 0, none⟩))), (2, (iv p2)), (4, (pt g1312)), (33, (iv p0.width)), (34, (iv x1907)), (75, (.bool (!t2179)))] [] (fun fb => by kernel_rfl) rfl trivial ?_
      refine WL.done rfl ?_
      injection hx2051 with hx2051
      exact WX.to Kx2050 (!t2179) [0, 2, 4, 33, 34, 75] rfl ⟨(hS2183.subR [0, 1, 2, 3, 4, 5, 6, 7]).sub [0] (by decide), hx2051.symm⟩
     refine WC.regionD ([], [0, 1, 2, 3, 4, 5, 6, 7, 8, 9, 10, 11, 12, 14, 15, 16, 17, 18, 19, 20, 22, 23, 24, 25, 26, 27, 28, 30, 31, 32, 33, 36, 37, 38], [[], [0], [0, 1], [0, 1, 2], [0, 1, 2, 3], [0, 1, 2, 3, 4], [0, 1, 2, 3, 4, 5], [0, 1, 2, 3, 4, 5, 6], [0, 1, 2], [0, 1, 2], [0, 1, 2], [0, 1, 2, 9, 10], [0, 1, 2, 9, 10, 11], [0, 1, 2, 3, 4, 5, 6, 7, 8, 9, 10, 11, 12], [0, 1, 2, 3, 4, 5, 6, 7, 8, 9, 10, 11, 12, 13], [0, 1, 2, 3, 4, 5, 6, 7, 8, 9, 10, 11, 12, 13, 14], [0, 1, 2, 3, 4, 5, 6, 7, 8, 9, 10, 11, 12, 13, 14, 15], [0, 1, 2, 3, 4, 5, 6, 7, 8, 9, 10, 11, 12, 13, 14, 15, 16], [0, 1, 2, 3, 4, 5, 6, 7, 8, 9, 10, 11, 12, 13, 14, 15, 16], [0, 1, 2, 3, 4, 5, 6, 7, 8, 9, 10, 11, 12, 13, 14, 15, 16, 18], [0, 1, 2, 3, 4, 5, 6, 7, 8, 9, 10, 11, 12, 13, 14, 15, 16, 18, 19], [0, 1, 2, 3, 4, 5, 6, 7, 8, 9, 10, 11, 12, 13, 14, 15, 16, 18, 19, 20], [0, 1, 2, 3, 4, 5, 6, 7, 8, 9, 10, 11, 12, 13, 14, 15, 16, 18, 19, 20, 21], [0, 1, 2, 3, 4, 5, 6, 7, 8, 9, 10, 11, 12, 13, 14, 15, 16, 17, 18, 19, 20, 21, 22], [0, 1, 2, 3, 4, 5, 6, 7, 8, 9, 10, 11, 12, 13, 14, 15, 16, 17, 18, 19, 20, 21, 22, 23], [0, 1, 2, 3, 4, 5, 6, 7, 8, 9, 10, 11, 12, 13, 14, 15, 16, 17, 18, 19, 20, 21, 22, 23, 24], [0, 1, 2, 3, 4, 5, 6, 7, 8, 9, 10, 11, 12, 13, 14, 15, 16, 17, 18, 19, 20, 21, 22, 23, 24, 25], [0, 1, 2, 3, 4, 5, 6, 7, 8, 9, 10, 11, 12, 13, 14, 15, 16, 17, 18, 19, 20, 21, 22, 23, 24, 25, 26], [0, 1, 2, 3, 4, 5, 6, 7, 8, 9, 10, 11, 12, 13, 14, 15, 16, 17, 18, 19, 20, 21, 22, 23, 24, 25, 26, 27], [0, 1, 2, 3, 4, 5, 6, 7, 8, 9, 10, 11, 12, 13, 14, 15, 16, 17, 18, 19, 20, 21, 22, 23, 24, 25, 26, 27, 28], [0, 1, 2, 3, 4, 5, 6, 7, 8, 9, 10, 11, 12, 13, 14, 15, 16, 17, 18, 19, 20, 21, 22, 23, 24], [0, 1, 2, 3, 4, 5, 6, 7, 8, 9, 10, 11, 12, 13, 14, 15, 16, 17, 18, 19, 20, 21, 22, 23, 24], [0, 1, 2, 3, 4, 5, 6, 7, 8, 9, 10, 11, 12, 13, 14, 15, 16, 17, 18, 19, 20, 21, 22, 23, 24], [0, 1, 2, 3, 4, 5, 6, 7, 8, 9, 10, 11, 12, 13, 14, 15, 16, 17, 18, 19, 20, 21, 22, 23, 24, 31, 32], [0, 1, 2, 3, 4, 5, 6, 7, 8, 9, 10, 11, 12, 13, 14, 15, 16, 17, 18, 19, 20, 21, 22, 23, 24, 31, 32, 33], [0, 1, 2, 3, 4, 5, 6, 7, 8, 9, 10, 11, 12, 13, 14, 15, 16, 17, 18, 19, 20, 21, 22, 23, 24, 25, 26, 27, 28, 29, 30, 31, 32, 33, 34], [0, 1, 2, 3, 4, 5, 6, 7, 8, 9, 10, 11, 12, 13, 14, 15, 16, 17, 18, 19, 20, 21, 22, 23, 24, 25, 26, 27, 28, 29, 30, 31, 32, 33, 34, 35], [0, 1, 2, 3, 4, 5, 6, 7, 8, 9, 10, 11, 12, 13, 14, 15, 16, 17, 18, 19, 20, 21, 22, 23, 24, 25, 26, 27, 28, 29, 30, 31, 32, 33, 34, 35, 36], [0, 1, 2, 3, 4, 5, 6, 7, 8, 9, 10, 11, 12, 13, 14, 15, 16, 17, 18, 19, 20, 21, 22, 23, 24, 25, 26, 27, 28, 29, 30, 31, 32, 33, 34, 35, 36, 37]]) [[0, 1, 2, 3, 4, 5, 6, 7, 8, 9, 10, 11, 12, 13, 14, 15, 16, 17, 18, 19, 20, 21, 22, 23, 24, 25, 26, 27, 28, 30, 31, 32, 33, 29, 34, 35, 36, 37, 38], [0, 1, 2, 3, 4, 5, 6, 7, 8, 9, 10, 11, 12, 13, 14, 15, 16, 17, 18, 19, 20, 21, 22, 23, 24, 25, 26, 27, 28, 30, 31, 32, 33, 34, 29, 35, 36, 37, 38]] (by kernel_rfl) (by kernel_rfl) (NoPanic.seq (NoPanic.block (NoPanic.seq (NoPanic.seq (NoPanic.block (NoPanic.seq (NoPanic.body))))))) ?_
     have hS2185 := hS1912.drew
     revert hS2185
     generalize World.drew w1911 = w2184
     intro hS2185
     refine ⟨trivial, forallC ?_ (forallC ?_ (forallN))⟩
     ·
      refine seg 3 [] [0, 2, 4, 7, 33, 34, 39] [(0, (.pointer (some ⟨g_p0, 0, none⟩))), (2, (iv p2)), (4, (pt g1312)), (7, (iv x1907)), (33, (iv p0.width)), (34, (iv x1907)), (39, (.bool (p2 == 0)))] [] (fun fb => by kernel_rfl) rfl trivial ?_
      refine WL.setB 39 h2052 rfl ?_
      refine seg 25 [.v (iv p0.height)] [0, 2, 4, 7, 33, 34, 53, 61] [(0, (.pointer (some ⟨g_p0, 0, none⟩))), (2, (iv p2)), (4, (pt g1312)), (7, (iv x1907)), (33, (iv p0.width)), (34, (iv x1907)), (53, (.bool false)), (61, (.bool (p2 == (w64 (p0.height - 1)))))] [.cell ⟨g_p0, 2, none⟩ (iv p0.height)] (fun fb => by kernel_rfl) rfl ⟨blk_cell (hS2185.rd 0).1 2 rfl, trivial⟩ ?_
      refine WL.setB 61 h2163 rfl ?_
      refine seg 39 [] [0, 2, 4, 33, 34, 75] [(0, (.pointer (some ⟨g_p0, 0, none⟩))), (2, (iv p2)), (4, (pt g1312)), (33, (iv p0.width)), (34, (iv x1907)), (75, (.bool false))] [] (fun fb => by kernel_rfl) rfl trivial ?_
      refine WL.done rfl ?_
      injection hx2051 with hx2051
      exact WX.to Kx2050 false [0, 2, 4, 33, 34, 75] rfl ⟨(hS2185.subR [0, 1, 2, 3, 4, 5, 6, 7]).sub [0] (by decide), hx2051.symm⟩
     refine seg 3 [] [0, 2, 4, 7, 33, 34, 39] [(0, (.pointer (some ⟨g_p0, 0, none⟩))), (2, (iv p2)), (4, (pt g1312)), (7, (iv x1907)), (33, (iv p0.width)), (34, (iv x1907)), (39, (.bool (p2 == 0)))] [] (fun fb => by kernel_rfl) rfl trivial ?_
     refine WL.setB 39 h2052 rfl ?_
     refine seg 25 [.v (iv p0.height)] [0, 2, 4, 7, 33, 34, 53, 61] [(0, (.pointer (some ⟨g_p0, 0, none⟩))), (2, (iv p2)), (4, (pt g1312)), (7, (iv x1907)), (33, (iv p0.width)), (34, (iv x1907)), (53, (.bool false)), (61, (.bool (p2 == (w64 (p0.height - 1)))))] [.cell ⟨g_p0, 2, none⟩ (iv p0.height)] (fun fb => by kernel_rfl) rfl ⟨blk_cell (hS2185.rd 0).1 2 rfl, trivial⟩ ?_
     refine WL.setB 61 h2163 rfl ?_
     refine seg 39 [] [0, 2, 4, 33, 34, 75] [(0, (.pointer (some ⟨g_p0, 0, none⟩))), (2, (iv p2)), (4, (pt g1312)), (33, (iv p0.width)), (34, (iv x1907)), (75, (.bool false))] [] (fun fb => by kernel_rfl) rfl trivial ?_
     refine WL.done rfl ?_
     injection hx2051 with hx2051
     exact WX.to Kx2050 false [0, 2, 4, 33, 34, 75] rfl ⟨(hS2185.subR [0, 1, 2, 3, 4, 5, 6, 7]).sub [0] (by decide), hx2051.symm⟩
    rintro y2189 w2186 ⟨hS2187, hq2188⟩
    subst hq2188
    refine WX.next ?_
    rcases br_some hl1913 with ⟨h2190, hl1913⟩ | ⟨h2190, hl1913⟩
    ·refine WC.condT2 (fun fb => by kernel_rfl) h2190 ?_
     refine WC.seq ?_
     refine WC.region ?_
     refine seg 1 [] [6] [(6, (.bool false))] [] (fun fb => by kernel_rfl) rfl trivial ?_
     refine WL.done rfl ?_
     refine WX.next ?_
     refine WC.ret ?_
     injection hl1913 with hl1913
     subst hl1913
     injection hf with hf
     subst hf
     exact WX.blockR (WX.thenR (WX.thenR (WX.blockR (WX.thenR (WX.ret_ [] (.bool false) [] (fun fb => by kernel_rfl) trivial ⟨_, rfl, rfl, hS2187.keep⟩)))))
    refine WC.condF2 (fun fb => by kernel_rfl) h2190 ?_
    refine WC.skip ?_
    refine WX.blockN (WX.next ?_)
    refine WC.region ?_
    refine seg 2 [] [0, 2, 4, 33, 34] [(0, (.pointer (some ⟨g_p0, 0, none⟩))), (2, (iv p2)), (4, (pt g1312)), (33, (iv p0.width)), (34, (iv (w64 (x1907 + 1))))] [] (fun fb => by kernel_rfl) rfl trivial ?_
    refine WL.done rfl ?_
    exact WX.again k1910 (Nat.lt_succ_self _) (w64 (x1907 + 1)) [0, 2, 4, 33, 34] rfl ⟨(hS2187.subR [0, 1, 2, 3, 4, 5, 6, 7]).sub [0] (by decide), hl1913⟩
   refine WC.condF2 (fun fb => by kernel_rfl) h1914 ?_
   refine WC.exit ?_
   injection hl1913 with hl1913
   exact WX.thenX (WX.thenX (WX.blockHere (WX.to Kx1908 () [] rfl ⟨(hS1912.subR [0, 1, 2, 3, 4, 5, 6, 7]).sub [] (by decide), hl1913.symm⟩)))
 rintro y2194 w2191 ⟨hS2192, hq2193⟩
 subst hq2193
 have hf := sum_inr hf
 refine WX.next ?_
 refine WC.seq ?_
 refine WC.region ?_
 refine seg 1 [] [6] [(6, (.bool true))] [] (fun fb => by kernel_rfl) rfl trivial ?_
 refine WL.done rfl ?_
 refine WX.next ?_
 refine WC.ret ?_
 injection hf with hf
 subst hf
 exact WX.ret_ [] (.bool true) [] (fun fb => by kernel_rfl) trivial ⟨_, rfl, rfl, hS2192.keep⟩
end Gp
