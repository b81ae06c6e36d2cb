/- Walks: each function of the program computes its plain function. -/
import Derived.Test.YtmdkdigmkcpceaaGp
set_option linter.unusedVariables false
set_option linter.unusedSimpArgs false
set_option maxHeartbeats 4000000
namespace Gp
open Go Gw Go.Proofs
theorem tile_colour_1_calls (p0 : Int)  (r : Bool) (w : World)  (hf : tile_colour_1 p0 = some r) :
  CallsR Try.prog 80 #[(iv p0)] w (fun v w' => v = (.bool r) ∧ Keeps NoS w w') := by
 have hS : St NoS w w [] [] := St.init (ro_nil _ _)
 refine enter 9 Try.func80 rfl Try.ntmps80 rfl ?_
 unfold tile_colour_1 at hf
 refine WC.seq ?_
 refine WC.region ?_
 refine seg 1 [] [0] [(0, (iv p0))] [] (fun fb => by kernel_rfl) rfl trivial ?_
 refine WL.done rfl ?_
 refine WX.next ?_
 refine WC.seq ?_
 refine WC.region ?_
 refine seg 3 [] [0, 5] [(0, (iv p0)), (5, (.bool (decide (p0 < 0))))] [] (fun fb => by kernel_rfl) rfl trivial ?_
 refine WL.cutV (T := Bool) 6 (fun t => [(8, (.bool t))]) (fun t => ((decide (p0 < 0)) || (decide (p0 ≥ 1000))) = t) (fun K => ?_) ?_
 ·
  rcases Bool.eq_false_or_eq_true (decide (p0 < 0)) with h52 | h52
  ·
   refine WL.setB 5 h52 rfl ?_
   refine seg 6 [] [8] [(8, (.bool true))] [] (fun fb => by kernel_rfl) rfl trivial ?_
   exact WL.toV K true [8] rfl (by first | (rw [h52]; done) | (rw [h52]; rfl))
  refine WL.setB 5 h52 rfl ?_
  refine seg 6 [] [8] [(8, (.bool (decide (p0 ≥ 1000))))] [] (fun fb => by kernel_rfl) rfl trivial ?_
  exact WL.toV K (decide (p0 ≥ 1000)) [8] rfl (by first | (rw [h52]; done) | (rw [h52]; rfl))
 rintro b53 rfl
 refine seg 7 [] [2] [(2, (.bool ((decide (p0 < 0)) || (decide (p0 ≥ 1000)))))] [] (fun fb => by kernel_rfl) rfl trivial ?_
 refine WL.done rfl ?_
 refine WX.next ?_
 refine WC.ret ?_
 injection hf with hf
 subst hf
 exact WX.ret_ [] (.bool ((decide (p0 < 0)) || (decide (p0 ≥ 1000)))) [] (fun fb => by kernel_rfl) trivial ⟨_, rfl, rfl, hS.keep⟩
theorem slices_IndexFunc_int_int_with_tile_colour_1_calls (k : Nat) (p0 : List Int) (A_p0 : Option Addr) (c_p0 : Nat) (r : Int) (w : World) (hR0 : RO NoS w (rowR encInt A_p0 c_p0 p0)) (hf : slices_IndexFunc_int_int_with_tile_colour_1 k p0 = some r) :
  CallsR Try.prog 81 #[(.slice A_p0 p0.length c_p0), (.func (.func 80) #[] #[])] w (fun v w' => v = (iv r) ∧ Keeps NoS w w') := by
 have hS : St NoS w w [rowR encInt A_p0 c_p0 p0] [] := St.init (ro_cons hR0 (ro_nil _ _))
 refine enter 19 Try.func81 rfl Try.ntmps81 rfl ?_
 unfold slices_IndexFunc_int_int_with_tile_colour_1 at hf
 refine WC.seq ?_
 refine WC.region ?_
 refine seg 1 [] [0, 1] [(0, (.slice A_p0 p0.length c_p0)), (1, (.func (.func 80) #[] #[]))] [] (fun fb => by kernel_rfl) rfl trivial ?_
 refine WL.done rfl ?_
 refine WX.next ?_
 refine WC.seq ?_
 refine WC.seq ?_
 refine WC.region ?_
 refine seg 3 [] [0, 1, 7, 8] [(0, (.slice A_p0 p0.length c_p0)), (1, (.func (.func 80) #[] #[])), (7, (iv (p0.length : Int))), (8, (iv 0))] [] (fun fb => by kernel_rfl) rfl trivial ?_
 refine WL.done rfl ?_
 refine WX.next ?_
 obtain ⟨x70, hx71, hf⟩ := bind_some hf
 refine WC.cutN (T := Unit) (fun t => []) (fun t w1 => St NoS w w1 [rowR encInt A_p0 c_p0 p0] [] ∧ x70 = .inr t) (fun Kx70 => ?_) ?_
 ·
  refine WC.block ?_
  refine WC.loop (T := Int) (fun t => [(0, (.slice A_p0 p0.length c_p0)), (1, (.func (.func 80) #[] #[])), (7, (iv (p0.length : Int))), (8, (iv t))]) (fun n t w1 => St NoS w w1 [rowR encInt A_p0 c_p0 p0] [] ∧ slices_IndexFunc_int_int_with_tile_colour_1.l0 n t p0 = some x70) k 0 [0, 1, 7, 8] rfl ⟨(hS.subR [0]).sub [] (by decide), hx71⟩ ?_
  rintro k72 x69 w73 ⟨hS74, hl75⟩
  cases k72 with
  | zero => rw [slices_IndexFunc_int_int_with_tile_colour_1.l0] at hl75; cases hl75
  | succ k72 =>
   rw [slices_IndexFunc_int_int_with_tile_colour_1.l0] at hl75
   refine WC.seq ?_
   refine WC.region ?_
   refine seg 1 [] [0, 1, 7, 8, 9] [(0, (.slice A_p0 p0.length c_p0)), (1, (.func (.func 80) #[] #[])), (7, (iv (p0.length : Int))), (8, (iv x69)), (9, (.bool (decide (x69 < (p0.length : Int)))))] [] (fun fb => by kernel_rfl) rfl trivial ?_
   refine WL.done rfl ?_
   refine WX.next ?_
   refine WC.seq ?_
   rcases br_some hl75 with ⟨h76, hl75⟩ | ⟨h76, hl75⟩
   ·refine WC.condT2 (fun fb => by kernel_rfl) h76 ?_
    refine WC.skip ?_
    refine WX.next ?_
    refine WC.seq ?_
    refine WC.block ?_
    refine WC.seq ?_
    refine WC.region ?_
    refine seg 2 [] [0, 1, 5, 7, 8] [(0, (.slice A_p0 p0.length c_p0)), (1, (.func (.func 80) #[] #[])), (5, (iv x69)), (7, (iv (p0.length : Int))), (8, (iv x69))] [] (fun fb => by kernel_rfl) rfl trivial ?_
    refine WL.done rfl ?_
    refine WX.next ?_
    refine WC.seq ?_
    refine WC.region ?_
    refine seg 3 [] [0, 1, 5, 7, 8, 11, 12, 13] [(0, (.slice A_p0 p0.length c_p0)), (1, (.func (.func 80) #[] #[])), (5, (iv x69)), (7, (iv (p0.length : Int))), (8, (iv x69)), (11, (.func (.func 80) #[] #[])), (12, (.slice A_p0 p0.length c_p0)), (13, (iv x69))] [] (fun fb => by kernel_rfl) rfl trivial ?_
    obtain ⟨h77, hl75⟩ := as_some hl75
    refine seg 5 [.v (iv (rdD p0 x69 0))] [0, 1, 5, 7, 8, 11, 15] [(0, (.slice A_p0 p0.length c_p0)), (1, (.func (.func 80) #[] #[])), (5, (iv x69)), (7, (iv (p0.length : Int))), (8, (iv x69)), (11, (.func (.func 80) #[] #[])), (15, (iv (rdD p0 x69 0)))] [.idx A_p0 x69 p0.length, .cell ((adr A_p0).add ((x69).toNat * 1)) (iv (rdD p0 x69 0))] (fun fb => by kernel_rfl) rfl ⟨rowR.adr (hS74.rd 0).1 h77.1 h77.2, rowR.cell (hS74.rd 0).1 0 h77.1 h77.2 0 rfl, trivial⟩ ?_
    obtain ⟨t78, ht79, hl75⟩ := bind_some hl75
    refine WL.call (some 16) 80 #[(iv (rdD p0 x69 0))] (fun fb => by kernel_rfl) (tile_colour_1_calls (rdD p0 x69 0) t78 _ ht79) (fun v w80 hR81 => ?_)
    obtain ⟨rfl, hk_⟩ := hR81
    have hS82 := hS74.keepN hk_
    refine ⟨trivial, ?_⟩
    refine WL.done rfl ?_
    refine WX.next ?_
    rcases br_some hl75 with ⟨h83, hl75⟩ | ⟨h83, hl75⟩
    ·refine WC.condT2 (fun fb => by kernel_rfl) h83 ?_
     refine WC.seq ?_
     refine WC.region ?_
     refine seg 2 [] [4] [(4, (iv x69))] [] (fun fb => by kernel_rfl) rfl trivial ?_
     refine WL.done rfl ?_
     refine WX.next ?_
     refine WC.ret ?_
     injection hl75 with hl75
     subst hl75
     injection hf with hf
     subst hf
     exact WX.blockR (WX.thenR (WX.thenR (WX.blockR (WX.thenR (WX.ret_ [] (iv x69) [] (fun fb => by kernel_rfl) trivial ⟨_, rfl, rfl, hS82.keep⟩)))))
    refine WC.condF2 (fun fb => by kernel_rfl) h83 ?_
    refine WC.skip ?_
    refine WX.blockN (WX.next ?_)
    refine WC.region ?_
    refine seg 2 [] [0, 1, 7, 8] [(0, (.slice A_p0 p0.length c_p0)), (1, (.func (.func 80) #[] #[])), (7, (iv (p0.length : Int))), (8, (iv (w64 (x69 + 1))))] [] (fun fb => by kernel_rfl) rfl trivial ?_
    refine WL.done rfl ?_
    exact WX.again k72 (Nat.lt_succ_self _) (w64 (x69 + 1)) [0, 1, 7, 8] rfl ⟨(hS82.subR [0]).sub [] (by decide), hl75⟩
   refine WC.condF2 (fun fb => by kernel_rfl) h76 ?_
   refine WC.exit ?_
   injection hl75 with hl75
   exact WX.thenX (WX.thenX (WX.blockHere (WX.to Kx70 () [] rfl ⟨(hS74.subR [0]).sub [] (by decide), hl75.symm⟩)))
 rintro y87 w84 ⟨hS85, hq86⟩
 subst hq86
 have hf := sum_inr hf
 refine WX.next ?_
 refine WC.seq ?_
 refine WC.region ?_
 refine seg 1 [] [4] [(4, (iv (-1)))] [] (fun fb => by kernel_rfl) rfl trivial ?_
 refine WL.done rfl ?_
 refine WX.next ?_
 refine WC.ret ?_
 injection hf with hf
 subst hf
 exact WX.ret_ [] (iv (-1)) [] (fun fb => by kernel_rfl) trivial ⟨_, rfl, rfl, hS85.keep⟩
theorem slices_ContainsFunc_int_int_with_tile_colour_1_calls (k : Nat) (p0 : List Int) (A_p0 : Option Addr) (c_p0 : Nat) (r : Bool) (w : World) (hR0 : RO NoS w (rowR encInt A_p0 c_p0 p0)) (hf : slices_ContainsFunc_int_int_with_tile_colour_1 k p0 = some r) :
  CallsR Try.prog 65 #[(.slice A_p0 p0.length c_p0), (.func (.func 80) #[] #[])] w (fun v w' => v = (.bool r) ∧ Keeps NoS w w') := by
 have hS : St NoS w w [rowR encInt A_p0 c_p0 p0] [] := St.init (ro_cons hR0 (ro_nil _ _))
 refine enter 9 Try.func65 rfl Try.ntmps65 rfl ?_
 unfold slices_ContainsFunc_int_int_with_tile_colour_1 at hf
 refine WC.seq ?_
 refine WC.region ?_
 refine seg 1 [] [0, 1] [(0, (.slice A_p0 p0.length c_p0)), (1, (.func (.func 80) #[] #[]))] [] (fun fb => by kernel_rfl) rfl trivial ?_
 refine WL.done rfl ?_
 refine WX.next ?_
 refine WC.seq ?_
 refine WC.region ?_
 refine seg 2 [] [5, 6] [(5, (.slice A_p0 p0.length c_p0)), (6, (.func (.func 80) #[] #[]))] [] (fun fb => by kernel_rfl) rfl trivial ?_
 obtain ⟨t89, ht90, hf⟩ := bind_some hf
 refine WL.call (some 7) 81 #[(.slice A_p0 p0.length c_p0), (.func (.func 80) #[] #[])] (fun fb => by kernel_rfl) (slices_IndexFunc_int_int_with_tile_colour_1_calls _ p0 A_p0 c_p0 t89 _ (hS.rd 0) ht90) (fun v w91 hR92 => ?_)
 obtain ⟨rfl, hk_⟩ := hR92
 have hS93 := hS.keepN hk_
 refine ⟨trivial, ?_⟩
 refine seg 5 [] [4] [(4, (.bool (decide (t89 ≥ 0))))] [] (fun fb => by kernel_rfl) rfl trivial ?_
 refine WL.done rfl ?_
 refine WX.next ?_
 refine WC.ret ?_
 injection hf with hf
 subst hf
 exact WX.ret_ [] (.bool (decide (t89 ≥ 0))) [] (fun fb => by kernel_rfl) trivial ⟨_, rfl, rfl, hS93.keep⟩
theorem tile_colour_calls (k : Nat) (p0 : List Int) (A_p0 : Option Addr) (c_p0 : Nat) (r : Bool) (w : World) (hR0 : RO NoS w (rowR encInt A_p0 c_p0 p0)) (hf : tile_colour k p0 = some r) :
  CallsR Try.prog 59 #[(.slice A_p0 p0.length c_p0)] w (fun v w' => v = (.bool r) ∧ Keeps NoS w w') := by
 have hS : St NoS w w [rowR encInt A_p0 c_p0 p0] [] := St.init (ro_cons hR0 (ro_nil _ _))
 refine enter 6 Try.func59 rfl Try.ntmps59 rfl ?_
 unfold tile_colour at hf
 refine WC.seq ?_
 refine WC.region ?_
 refine seg 1 [] [0] [(0, (.slice A_p0 p0.length c_p0))] [] (fun fb => by kernel_rfl) rfl trivial ?_
 refine WL.done rfl ?_
 refine WX.next ?_
 refine WC.seq ?_
 refine WC.region ?_
 refine seg 1 [] [3] [(3, (.slice A_p0 p0.length c_p0))] [] (fun fb => by kernel_rfl) rfl trivial ?_
 obtain ⟨t94, ht95, hf⟩ := bind_some hf
 refine WL.call (some 4) 65 #[(.slice A_p0 p0.length c_p0), (.func (.func 80) #[] #[])] (fun fb => by kernel_rfl) (slices_ContainsFunc_int_int_with_tile_colour_1_calls _ p0 A_p0 c_p0 t94 _ (hS.rd 0) ht95) (fun v w96 hR97 => ?_)
 obtain ⟨rfl, hk_⟩ := hR97
 have hS98 := hS.keepN hk_
 refine ⟨trivial, ?_⟩
 refine seg 4 [] [2] [(2, (.bool (!t94)))] [] (fun fb => by kernel_rfl) rfl trivial ?_
 refine WL.done rfl ?_
 refine WX.next ?_
 refine WC.ret ?_
 injection hf with hf
 subst hf
 exact WX.ret_ [] (.bool (!t94)) [] (fun fb => by kernel_rfl) trivial ⟨_, rfl, rfl, hS98.keep⟩
theorem tile_Valid_key24 : KeyK Try.prog 24 (aggI ints_Tile) := KeyK.struct (n := 4) (by kernel_rfl) ints_Tile (fun _ => rfl) (fun x y h => by cases x; cases y; simp only [ints_Tile, List.cons.injEq, and_true] at h; obtain ⟨rfl, rfl, rfl, rfl⟩ := h; rfl)
theorem tile_Valid_calls (k : Nat) (p0 : List Tile) (A_p0 : Option Addr) (c_p0 : Nat) (r : Bool) (w : World) (hR0 : RO NoS w (rowR enc_Tile A_p0 c_p0 p0)) (hf : tile_Valid k p0 = some r) :
  CallsR Try.prog 38 #[(.slice A_p0 p0.length c_p0)] w (fun v w' => v = (.bool r) ∧ Keeps NoS w w') := by
 have hS : St NoS w w [rowR enc_Tile A_p0 c_p0 p0] [] := St.init (ro_cons hR0 (ro_nil _ _))
 refine enter 35 Try.func38 rfl Try.ntmps38 rfl ?_
 unfold tile_Valid at hf
 refine WC.seq ?_
 refine WC.region ?_
 refine seg 1 [] [0] [(0, (.slice A_p0 p0.length c_p0))] [] (fun fb => by kernel_rfl) rfl trivial ?_
 refine WL.done rfl ?_
 refine WX.next ?_
 refine WC.seq ?_
 refine WC.seq ?_
 refine WC.region ?_
 refine seg 3 [] [0, 8] [(0, (.slice A_p0 p0.length c_p0)), (8, (.bool (decide ((p0.length : Int) > 1000))))] [] (fun fb => by kernel_rfl) rfl trivial ?_
 refine WL.done rfl ?_
 refine WX.next ?_
 rcases br_some hf with ⟨h33, hf⟩ | ⟨h33, hf⟩
 ·refine WC.condT2 (fun fb => by kernel_rfl) h33 ?_
  refine WC.seq ?_
  refine WC.region ?_
  refine seg 1 [] [2] [(2, (.bool false))] [] (fun fb => by kernel_rfl) rfl trivial ?_
  refine WL.done rfl ?_
  refine WX.next ?_
  refine WC.ret ?_
  injection hf with hf
  subst hf
  exact WX.thenR (WX.ret_ [] (.bool false) [] (fun fb => by kernel_rfl) trivial ⟨_, rfl, rfl, hS.keep⟩)
 refine WC.condF2 (fun fb => by kernel_rfl) h33 ?_
 refine WC.skip ?_
 refine WX.next ?_
 refine WC.seq ?_
 refine WC.region ?_
 refine WL.new hS 9 [] (fun g => (.map (some g))) (mapObj (aggI ints_Tile) vB ([] : List (Tile × Bool))) [] (fun fb g => by kernel_rfl) trivial (fun g34 w35 hS36 => ?_)
 refine ⟨trivial, ?_⟩
 refine seg 2 [] [0, 3] [(0, (.slice A_p0 p0.length c_p0)), (3, (.map (some g34)))] [] (fun fb => by kernel_rfl) rfl trivial ?_
 refine WL.done rfl ?_
 refine WX.next ?_
 refine WC.seq ?_
 refine WC.seq ?_
 refine WC.region ?_
 refine seg 3 [] [3, 10, 11, 12] [(3, (.map (some g34))), (10, (.slice A_p0 p0.length c_p0)), (11, (iv (p0.length : Int))), (12, (iv 0))] [] (fun fb => by kernel_rfl) rfl trivial ?_
 refine WL.done rfl ?_
 refine WX.next ?_
 obtain ⟨x170, hx171, hf⟩ := bind_some hf
 refine WC.cutN (T := Unit) (fun t => []) (fun t w1 => St NoS w w1 [rowR enc_Tile A_p0 c_p0 p0] [] ∧ x170 = .inr t) (fun Kx170 => ?_) ?_
 ·
  refine WC.block ?_
  refine WC.loop (T := (List (Tile × Bool)) × Int) (fun t => [(3, (.map (some g34))), (10, (.slice A_p0 p0.length c_p0)), (11, (iv (p0.length : Int))), (12, (iv t.2))]) (fun n t w1 => St NoS w w1 [rowR enc_Tile A_p0 c_p0 p0] [blk g34 (mapObj (aggI ints_Tile) vB t.1)] ∧ tile_Valid.l0 n t.1 t.2 p0 = some x170) k (([] : List (Tile × Bool)), 0) [3, 10, 11, 12] rfl ⟨(hS36.subR [0]).sub [0] (by decide), hx171⟩ ?_
  rintro k172 ⟨l168, x169⟩ w173 ⟨hS174, hl175⟩
  cases k172 with
  | zero => rw [tile_Valid.l0] at hl175; cases hl175
  | succ k172 =>
   rw [tile_Valid.l0] at hl175
   refine WC.seq ?_
   refine WC.region ?_
   refine seg 1 [] [3, 10, 11, 12, 13] [(3, (.map (some g34))), (10, (.slice A_p0 p0.length c_p0)), (11, (iv (p0.length : Int))), (12, (iv x169)), (13, (.bool (decide (x169 < (p0.length : Int)))))] [] (fun fb => by kernel_rfl) rfl trivial ?_
   refine WL.done rfl ?_
   refine WX.next ?_
   refine WC.seq ?_
   rcases br_some hl175 with ⟨h176, hl175⟩ | ⟨h176, hl175⟩
   ·refine WC.condT2 (fun fb => by kernel_rfl) h176 ?_
    refine WC.skip ?_
    refine WX.next ?_
    refine WC.seq ?_
    refine WC.block ?_
    refine WC.seq ?_
    refine WC.region ?_
    obtain ⟨h177, hl175⟩ := as_some hl175
    refine seg 2 [.v (iv ((rdD p0 x169 z_Tile).N)), .v (iv ((rdD p0 x169 z_Tile).E)), .v (iv ((rdD p0 x169 z_Tile).S)), .v (iv ((rdD p0 x169 z_Tile).W))] [3, 10, 11, 12, 15] [(3, (.map (some g34))), (10, (.slice A_p0 p0.length c_p0)), (11, (iv (p0.length : Int))), (12, (iv x169)), (15, (.agg #[(iv ((rdD p0 x169 z_Tile).N)), (iv ((rdD p0 x169 z_Tile).E)), (iv ((rdD p0 x169 z_Tile).S)), (iv ((rdD p0 x169 z_Tile).W))]))] [.idx A_p0 x169 p0.length, .cell ((adr A_p0).add ((x169).toNat * 4)) (iv ((rdD p0 x169 z_Tile).N)), .cell (((adr A_p0).add ((x169).toNat * 4)).add 1) (iv ((rdD p0 x169 z_Tile).E)), .cell (((adr A_p0).add ((x169).toNat * 4)).add 2) (iv ((rdD p0 x169 z_Tile).S)), .cell (((adr A_p0).add ((x169).toNat * 4)).add 3) (iv ((rdD p0 x169 z_Tile).W))] (fun fb => by kernel_rfl) rfl ⟨rowR.adr (hS174.rd 0).1 h177.1 h177.2, rowR.cell (hS174.rd 0).1 z_Tile h177.1 h177.2 0 rfl, rowR.cell (hS174.rd 0).1 z_Tile h177.1 h177.2 1 rfl, rowR.cell (hS174.rd 0).1 z_Tile h177.1 h177.2 2 rfl, rowR.cell (hS174.rd 0).1 z_Tile h177.1 h177.2 3 rfl, trivial⟩ ?_
    refine WL.new hS174 5 [] (fun g => (.pointer (some ⟨g, 0, none⟩))) (.cells #[(iv 0), (iv 0), (iv 0), (iv 0)] 24 (0, 0)) [] (fun fb g => by kernel_rfl) trivial (fun g178 w179 hS180 => ?_)
    refine ⟨trivial, ?_⟩
    refine WL.store hS180 0 rfl [(0, (iv ((rdD p0 x169 z_Tile).N))), (1, (iv ((rdD p0 x169 z_Tile).E))), (2, (iv ((rdD p0 x169 z_Tile).S))), (3, (iv ((rdD p0 x169 z_Tile).W)))] #[(iv ((rdD p0 x169 z_Tile).N)), (iv ((rdD p0 x169 z_Tile).E)), (iv ((rdD p0 x169 z_Tile).S)), (iv ((rdD p0 x169 z_Tile).W))] (fun fb => by kernel_rfl) (by kernel_rfl) rfl [1] (by decide) (by decide) (fun w182 hS183 => ?_)
    refine ⟨trivial, ?_⟩
    refine WL.done rfl ?_
    refine WX.next ?_
    refine WC.seq ?_
    refine WC.seq ?_
    refine WC.region ?_
    refine seg 2 [.v (iv ((rdD p0 x169 z_Tile).N)), .v (iv ((rdD p0 x169 z_Tile).E)), .v (iv ((rdD p0 x169 z_Tile).S)), .v (iv ((rdD p0 x169 z_Tile).W))] [3, 5, 10, 11, 12, 16, 17] [(3, (.map (some g34))), (5, (pt g178)), (10, (.slice A_p0 p0.length c_p0)), (11, (iv (p0.length : Int))), (12, (iv x169)), (16, (.map (some g34))), (17, (.agg #[(iv ((rdD p0 x169 z_Tile).N)), (iv ((rdD p0 x169 z_Tile).E)), (iv ((rdD p0 x169 z_Tile).S)), (iv ((rdD p0 x169 z_Tile).W))]))] [.cell ⟨g178, 0, none⟩ (iv ((rdD p0 x169 z_Tile).N)), .cell ⟨g178, 1, none⟩ (iv ((rdD p0 x169 z_Tile).E)), .cell ⟨g178, 2, none⟩ (iv ((rdD p0 x169 z_Tile).S)), .cell ⟨g178, 3, none⟩ (iv ((rdD p0 x169 z_Tile).W))] (fun fb => by kernel_rfl) rfl ⟨hS183.cell 0 rfl 0 rfl, hS183.cell 0 rfl 1 rfl, hS183.cell 0 rfl 2 rfl, hS183.cell 0 rfl 3 rfl, trivial⟩ ?_
    refine WL.lookup (hS183.own 1).1 (rdD p0 x169 z_Tile) (d := 18) (c := false) (t := 100) (kT := 24) (eT := 4) (z := false) (kE := (aggI ints_Tile)) (vE := vB) (l := l168) (.bool (mget (rdD p0 x169 z_Tile) false l168)) (fun fb => by kernel_rfl) tile_Valid_key24 (by kernel_rfl) (fun _ => by kernel_rfl) rfl ?_
    refine ⟨trivial, ?_⟩
    refine seg 4 [] [3, 5, 10, 11, 12, 19] [(3, (.map (some g34))), (5, (pt g178)), (10, (.slice A_p0 p0.length c_p0)), (11, (iv (p0.length : Int))), (12, (iv x169)), (19, (.bool (mget (rdD p0 x169 z_Tile) false l168)))] [] (fun fb => by kernel_rfl) rfl trivial ?_
    obtain ⟨x195, hx196, hl175⟩ := bind_some hl175
    refine WL.cutW (T := Bool) 16 (fun t => [(3, (.map (some g34))), (5, (pt g178)), (10, (.slice A_p0 p0.length c_p0)), (11, (iv (p0.length : Int))), (12, (iv x169)), (31, (.bool t))]) (fun t w1 => (St NoS w w1 [rowR enc_Tile A_p0 c_p0 p0] [blk g34 (mapObj (aggI ints_Tile) vB l168), blk g178 (.cells #[(iv ((rdD p0 x169 z_Tile).N)), (iv ((rdD p0 x169 z_Tile).E)), (iv ((rdD p0 x169 z_Tile).S)), (iv ((rdD p0 x169 z_Tile).W))] 24 (0, 0))] ∧ x195 = t) ∧ CellsOK [] w1) (fun K => ?_) ?_
    ·
     rcases br_some hx196 with ⟨h197, hx196⟩ | ⟨h197, hx196⟩
     ·
      refine WL.setB 19 h197 rfl ?_
      refine seg 16 [] [3, 5, 10, 11, 12, 31] [(3, (.map (some g34))), (5, (pt g178)), (10, (.slice A_p0 p0.length c_p0)), (11, (iv (p0.length : Int))), (12, (iv x169)), (31, (.bool true))] [] (fun fb => by kernel_rfl) rfl trivial ?_
      injection hx196 with hx196
      exact WL.to K true [3, 5, 10, 11, 12, 31] rfl ⟨⟨(hS183.subR [0]).sub [1, 0] (by decide), hx196.symm⟩, trivial⟩
     refine WL.setB 19 h197 rfl ?_
     refine seg 12 [.v (iv ((rdD p0 x169 z_Tile).N)), .v (iv ((rdD p0 x169 z_Tile).E)), .v (iv ((rdD p0 x169 z_Tile).S)), .v (iv ((rdD p0 x169 z_Tile).W))] [3, 5, 10, 11, 12, 19, 21, 23, 25, 27] [(3, (.map (some g34))), (5, (pt g178)), (10, (.slice A_p0 p0.length c_p0)), (11, (iv (p0.length : Int))), (12, (iv x169)), (19, (.bool false)), (21, (iv ((rdD p0 x169 z_Tile).N))), (23, (iv ((rdD p0 x169 z_Tile).E))), (25, (iv ((rdD p0 x169 z_Tile).S))), (27, (iv ((rdD p0 x169 z_Tile).W)))] [.cell ⟨g178, 0, none⟩ (iv ((rdD p0 x169 z_Tile).N)), .cell ⟨g178, 1, none⟩ (iv ((rdD p0 x169 z_Tile).E)), .cell ⟨g178, 2, none⟩ (iv ((rdD p0 x169 z_Tile).S)), .cell ⟨g178, 3, none⟩ (iv ((rdD p0 x169 z_Tile).W))] (fun fb => by kernel_rfl) rfl ⟨hS183.cell 0 rfl 0 rfl, hS183.cell 0 rfl 1 rfl, hS183.cell 0 rfl 2 rfl, hS183.cell 0 rfl 3 rfl, trivial⟩ ?_
     refine WL.new hS183 28 [] (fun g => (.slice (some ⟨g, 0, none⟩) 4 4)) (.cells #[(iv ((rdD p0 x169 z_Tile).N)), (iv ((rdD p0 x169 z_Tile).E)), (iv ((rdD p0 x169 z_Tile).S)), (iv ((rdD p0 x169 z_Tile).W))] 3 (0, 0)) [] (fun fb g => by kernel_rfl) trivial (fun g198 w199 hS200 => ?_)
     refine ⟨trivial, ?_⟩
     have hS202 : St NoS w w199 [rowR enc_Tile A_p0 c_p0 p0] [rowO 3 encInt (some ⟨g198, 0, none⟩) 4 [(rdD p0 x169 z_Tile).N, (rdD p0 x169 z_Tile).E, (rdD p0 x169 z_Tile).S, (rdD p0 x169 z_Tile).W], blk g178 (.cells #[(iv ((rdD p0 x169 z_Tile).N)), (iv ((rdD p0 x169 z_Tile).E)), (iv ((rdD p0 x169 z_Tile).S)), (iv ((rdD p0 x169 z_Tile).W))] 24 (0, 0)), blk g34 (mapObj (aggI ints_Tile) vB l168)] := hS200.map1 0 _ (fun h => rowO.ofBlk h rfl (Nat.le_of_ble_eq_true (by kernel_rfl))) (fun _ h => by obtain ⟨_, h1, h2⟩ := h; injection h1 with h1; subst h1; exact h2) [1, 2] (by decide) (by decide)
     obtain ⟨t203, ht204, hx196⟩ := bind_some hx196
     refine WL.call (some 29) 59 #[(.slice (some ⟨g198, 0, none⟩) [(rdD p0 x169 z_Tile).N, (rdD p0 x169 z_Tile).E, (rdD p0 x169 z_Tile).S, (rdD p0 x169 z_Tile).W].length 4)] (fun fb => by kernel_rfl) (tile_colour_calls _ [(rdD p0 x169 z_Tile).N, (rdD p0 x169 z_Tile).E, (rdD p0 x169 z_Tile).S, (rdD p0 x169 z_Tile).W] (some ⟨g198, 0, none⟩) 4 t203 _ (hS202.ow 0).ofO ht204) (fun v w205 hR206 => ?_)
     obtain ⟨rfl, hk_⟩ := hR206
     have hS207 := hS202.keepN hk_
     refine ⟨trivial, ?_⟩
     refine seg 16 [] [3, 5, 10, 11, 12, 31] [(3, (.map (some g34))), (5, (pt g178)), (10, (.slice A_p0 p0.length c_p0)), (11, (iv (p0.length : Int))), (12, (iv x169)), (31, (.bool (!t203)))] [] (fun fb => by kernel_rfl) rfl trivial ?_
     injection hx196 with hx196
     exact WL.to K (!t203) [3, 5, 10, 11, 12, 31] rfl ⟨⟨(hS207.subR [0]).sub [2, 1] (by decide), hx196.symm⟩, trivial⟩
    rintro y208 w210 ⟨⟨hS211, hq209⟩, hF212⟩
    subst hq209
    refine WL.done rfl ?_
    refine WX.next ?_
    rcases br_some hl175 with ⟨h213, hl175⟩ | ⟨h213, hl175⟩
    ·refine WC.condT2 (fun fb => by kernel_rfl) h213 ?_
     refine WC.seq ?_
     refine WC.region ?_
     refine seg 1 [] [2] [(2, (.bool false))] [] (fun fb => by kernel_rfl) rfl trivial ?_
     refine WL.done rfl ?_
     refine WX.next ?_
     refine WC.ret ?_
     injection hl175 with hl175
     subst hl175
     injection hf with hf
     subst hf
     exact WX.thenR (WX.blockR (WX.thenR (WX.thenR (WX.blockR (WX.thenR (WX.ret_ [] (.bool false) [] (fun fb => by kernel_rfl) trivial ⟨_, rfl, rfl, hS211.keep⟩))))))
    refine WC.condF2 (fun fb => by kernel_rfl) h213 ?_
    refine WC.skip ?_
    refine WX.next ?_
    refine WC.region ?_
    refine seg 2 [.v (iv ((rdD p0 x169 z_Tile).N)), .v (iv ((rdD p0 x169 z_Tile).E)), .v (iv ((rdD p0 x169 z_Tile).S)), .v (iv ((rdD p0 x169 z_Tile).W))] [3, 10, 11, 12, 32, 33] [(3, (.map (some g34))), (10, (.slice A_p0 p0.length c_p0)), (11, (iv (p0.length : Int))), (12, (iv x169)), (32, (.map (some g34))), (33, (.agg #[(iv ((rdD p0 x169 z_Tile).N)), (iv ((rdD p0 x169 z_Tile).E)), (iv ((rdD p0 x169 z_Tile).S)), (iv ((rdD p0 x169 z_Tile).W))]))] [.cell ⟨g178, 0, none⟩ (iv ((rdD p0 x169 z_Tile).N)), .cell ⟨g178, 1, none⟩ (iv ((rdD p0 x169 z_Tile).E)), .cell ⟨g178, 2, none⟩ (iv ((rdD p0 x169 z_Tile).S)), .cell ⟨g178, 3, none⟩ (iv ((rdD p0 x169 z_Tile).W))] (fun fb => by kernel_rfl) rfl ⟨hS211.cell 1 rfl 0 rfl, hS211.cell 1 rfl 1 rfl, hS211.cell 1 rfl 2 rfl, hS211.cell 1 rfl 3 rfl, trivial⟩ ?_
    refine WL.mapput hS211 0 (t := 100) (kT := 24) (eT := 4) (kE := (aggI ints_Tile)) (vE := vB) (l := l168) rfl (rdD p0 x169 z_Tile) true (fun fb => by kernel_rfl) tile_Valid_key24 (by kernel_rfl) [1] (by decide) (by decide) (fun w214 hS215 => ?_)
    refine ⟨trivial, ?_⟩
    refine WL.done rfl ?_
    refine WX.blockN (WX.next ?_)
    refine WC.region ?_
    refine seg 2 [] [3, 10, 11, 12] [(3, (.map (some g34))), (10, (.slice A_p0 p0.length c_p0)), (11, (iv (p0.length : Int))), (12, (iv (w64 (x169 + 1))))] [] (fun fb => by kernel_rfl) rfl trivial ?_
    refine WL.done rfl ?_
    exact WX.again k172 (Nat.lt_succ_self _) (mput (rdD p0 x169 z_Tile) true l168, w64 (x169 + 1)) [3, 10, 11, 12] rfl ⟨(hS215.subR [0]).sub [0] (by decide), hl175⟩
   refine WC.condF2 (fun fb => by kernel_rfl) h176 ?_
   refine WC.exit ?_
   injection hl175 with hl175
   exact WX.thenX (WX.thenX (WX.blockHere (WX.to Kx170 () [] rfl ⟨(hS174.subR [0]).sub [] (by decide), hl175.symm⟩)))
 rintro y219 w216 ⟨hS217, hq218⟩
 subst hq218
 have hf := sum_inr hf
 refine WX.next ?_
 refine WC.seq ?_
 refine WC.region ?_
 refine seg 1 [] [2] [(2, (.bool true))] [] (fun fb => by kernel_rfl) rfl trivial ?_
 refine WL.done rfl ?_
 refine WX.next ?_
 refine WC.ret ?_
 injection hf with hf
 subst hf
 exact WX.ret_ [] (.bool true) [] (fun fb => by kernel_rfl) trivial ⟨_, rfl, rfl, hS217.keep⟩
theorem decide_asks_calls (k : Nat) (p0 : List Tile) (A_p0 : Option Addr) (c_p0 : Nat) (r : Int) (w : World) (hR0 : RO NoS w (rowR enc_Tile A_p0 c_p0 p0)) (hf : decide_asks k p0 = some r) :
  CallsR Try.prog 43 #[(.slice A_p0 p0.length c_p0)] w (fun v w' => v = (iv r) ∧ Keeps NoS w w') := by
 have hS : St NoS w w [rowR enc_Tile A_p0 c_p0 p0] [] := St.init (ro_cons hR0 (ro_nil _ _))
 refine enter 11 Try.func43 rfl Try.ntmps43 rfl ?_
 unfold decide_asks at hf
 refine WC.seq ?_
 refine WC.region ?_
 refine seg 1 [] [0] [(0, (.slice A_p0 p0.length c_p0))] [] (fun fb => by kernel_rfl) rfl trivial ?_
 refine WL.done rfl ?_
 refine WX.next ?_
 refine WC.seq ?_
 refine WC.block ?_
 refine WC.seq ?_
 refine WC.region ?_
 refine seg 1 [] [0, 4] [(0, (.slice A_p0 p0.length c_p0)), (4, (.slice A_p0 p0.length c_p0))] [] (fun fb => by kernel_rfl) rfl trivial ?_
 obtain ⟨t221, ht222, hf⟩ := bind_some hf
 refine WL.call (some 5) 38 #[(.slice A_p0 p0.length c_p0)] (fun fb => by kernel_rfl) (tile_Valid_calls _ p0 A_p0 c_p0 t221 _ (hS.rd 0) ht222) (fun v w223 hR224 => ?_)
 obtain ⟨rfl, hk_⟩ := hR224
 have hS225 := hS.keepN hk_
 refine ⟨trivial, ?_⟩
 refine seg 4 [] [0, 3] [(0, (.slice A_p0 p0.length c_p0)), (3, (.bool (!t221)))] [] (fun fb => by kernel_rfl) rfl trivial ?_
 refine WL.done rfl ?_
 refine WX.next ?_
 rcases br_some hf with ⟨h226, hf⟩ | ⟨h226, hf⟩
 ·refine WC.condT2 (fun fb => by kernel_rfl) h226 ?_
  refine WC.seq ?_
  refine WC.region ?_
  refine seg 1 [] [2] [(2, (iv 1))] [] (fun fb => by kernel_rfl) rfl trivial ?_
  refine WL.done rfl ?_
  refine WX.next ?_
  refine WC.ret ?_
  injection hf with hf
  subst hf
  exact WX.blockR (WX.thenR (WX.ret_ [] (iv 1) [] (fun fb => by kernel_rfl) trivial ⟨_, rfl, rfl, hS225.keep⟩))
 refine WC.condF2 (fun fb => by kernel_rfl) h226 ?_
 refine WC.seq ?_
 refine WC.region ?_
 refine seg 4 [] [7] [(7, (.bool (decide ((p0.length : Int) > 3))))] [] (fun fb => by kernel_rfl) rfl trivial ?_
 refine WL.done rfl ?_
 refine WX.next ?_
 rcases br_some hf with ⟨h227, hf⟩ | ⟨h227, hf⟩
 ·refine WC.condT2 (fun fb => by kernel_rfl) h227 ?_
  refine WC.seq ?_
  refine WC.region ?_
  refine seg 1 [] [2] [(2, (iv 2))] [] (fun fb => by kernel_rfl) rfl trivial ?_
  refine WL.done rfl ?_
  refine WX.next ?_
  refine WC.ret ?_
  injection hf with hf
  subst hf
  exact WX.blockR (WX.thenR (WX.ret_ [] (iv 2) [] (fun fb => by kernel_rfl) trivial ⟨_, rfl, rfl, hS225.keep⟩))
 refine WC.condF2 (fun fb => by kernel_rfl) h227 ?_
 refine WC.skip ?_
 refine WX.blockN (WX.next ?_)
 refine WC.seq ?_
 refine WC.region ?_
 refine seg 1 [] [2] [(2, (iv 0))] [] (fun fb => by kernel_rfl) rfl trivial ?_
 refine WL.done rfl ?_
 refine WX.next ?_
 refine WC.ret ?_
 injection hf with hf
 subst hf
 exact WX.ret_ [] (iv 0) [] (fun fb => by kernel_rfl) trivial ⟨_, rfl, rfl, hS225.keep⟩
theorem decide_sides_calls (p0 : List Tile) (A_p0 : Option Addr) (c_p0 : Nat) (r : Unit) (w : World) (hR0 : RO NoS w (rowR enc_Tile A_p0 c_p0 p0)) (hf : decide_sides p0 = some r) :
  CallsR Try.prog 44 #[(.slice A_p0 p0.length c_p0)] w (fun v w' => ∃ (g1_ : Nat), v = (.func (.func 61) #[] #[(.pointer (some ⟨g1_, 0, none⟩))]) ∧ St NoS w w' [] [blk g1_ (.cells #[(.slice A_p0 p0.length c_p0)] 22 (0, 0))]) := by
 have hS : St NoS w w [rowR enc_Tile A_p0 c_p0 p0] [] := St.init (ro_cons hR0 (ro_nil _ _))
 refine enter 4 Try.func44 rfl Try.ntmps44 rfl ?_
 unfold decide_sides at hf
 refine WC.seq ?_
 refine WC.region ?_
 refine WL.new hS 1 [] (fun g => (.pointer (some ⟨g, 0, none⟩))) (.cells #[(.slice A_p0 p0.length c_p0)] 22 (0, 0)) [] (fun fb g => by kernel_rfl) trivial (fun g239 w240 hS241 => ?_)
 refine ⟨trivial, ?_⟩
 refine seg 2 [] [1] [(1, (pt g239))] [] (fun fb => by kernel_rfl) rfl trivial ?_
 refine WL.done rfl ?_
 refine WX.next ?_
 refine WC.seq ?_
 refine WC.region ?_
 refine seg 2 [] [2] [(2, (.func (.func 61) #[] #[(pt g239)]))] [] (fun fb => by kernel_rfl) rfl trivial ?_
 refine WL.done rfl ?_
 refine WX.next ?_
 refine WC.ret ?_
 injection hf with hf
 subst hf
 exact WX.ret_ [] (.func (.func 61) #[] #[(pt g239)]) [] (fun fb => by kernel_rfl) trivial ⟨_, rfl, g239, rfl, (hS241.sub [0] (by decide)).noR⟩
theorem rows_Few_calls (k : Nat) (p0 : List Tile) (p1 : Int) (A_p0 : Option Addr) (c_p0 : Nat) (r : Bool) (w : World) (hR0 : RO NoS w (rowR enc_Tile A_p0 c_p0 p0)) (hf : rows_Few k p0 p1 = some r) :
  CallsR Try.prog 45 #[(.slice A_p0 p0.length c_p0), (iv p1)] w (fun v w' => v = (.bool r) ∧ Keeps NoS w w') := by
 have hS : St NoS w w [rowR enc_Tile A_p0 c_p0 p0] [] := St.init (ro_cons hR0 (ro_nil _ _))
 refine enter 17 Try.func45 rfl Try.ntmps45 rfl ?_
 unfold rows_Few at hf
 refine WC.seq ?_
 refine WC.region ?_
 refine seg 1 [] [0, 1] [(0, (.slice A_p0 p0.length c_p0)), (1, (iv p1))] [] (fun fb => by kernel_rfl) rfl trivial ?_
 refine WL.done rfl ?_
 refine WX.next ?_
 refine WC.seq ?_
 refine WC.region ?_
 refine seg 1 [] [0, 1, 5] [(0, (.slice A_p0 p0.length c_p0)), (1, (iv p1)), (5, (iv 1))] [] (fun fb => by kernel_rfl) rfl trivial ?_
 refine WL.done rfl ?_
 refine WX.next ?_
 refine WC.seq ?_
 refine WC.seq ?_
 refine WC.region ?_
 refine seg 2 [] [0, 5, 6, 7] [(0, (.slice A_p0 p0.length c_p0)), (5, (iv 1)), (6, (iv p1)), (7, (iv 0))] [] (fun fb => by kernel_rfl) rfl trivial ?_
 refine WL.done rfl ?_
 refine WX.next ?_
 obtain ⟨x314, hx315, hf⟩ := bind_some hf
 refine WC.cutN (T := Unit) (fun t => []) (fun t w1 => St NoS w w1 [rowR enc_Tile A_p0 c_p0 p0] [] ∧ x314 = .inr t) (fun Kx314 => ?_) ?_
 ·
  refine WC.block ?_
  refine WC.loop (T := Int × Int) (fun t => [(0, (.slice A_p0 p0.length c_p0)), (5, (iv t.1)), (6, (iv p1)), (7, (iv t.2))]) (fun n t w1 => St NoS w w1 [rowR enc_Tile A_p0 c_p0 p0] [] ∧ rows_Few.l0 n t.1 t.2 p0 p1 = some x314) k (1, 0) [0, 5, 6, 7] rfl ⟨(hS.subR [0]).sub [] (by decide), hx315⟩ ?_
  rintro k316 ⟨x312, x313⟩ w317 ⟨hS318, hl319⟩
  cases k316 with
  | zero => rw [rows_Few.l0] at hl319; cases hl319
  | succ k316 =>
   rw [rows_Few.l0] at hl319
   refine WC.seq ?_
   refine WC.region ?_
   refine seg 1 [] [0, 5, 6, 7, 8] [(0, (.slice A_p0 p0.length c_p0)), (5, (iv x312)), (6, (iv p1)), (7, (iv x313)), (8, (.bool (decide (x313 < p1))))] [] (fun fb => by kernel_rfl) rfl trivial ?_
   refine WL.done rfl ?_
   refine WX.next ?_
   refine WC.seq ?_
   rcases br_some hl319 with ⟨h320, hl319⟩ | ⟨h320, hl319⟩
   ·refine WC.condT2 (fun fb => by kernel_rfl) h320 ?_
    refine WC.skip ?_
    refine WX.next ?_
    refine WC.seq ?_
    refine WC.block ?_
    refine WC.seq ?_
    refine WC.region ?_
    refine seg 6 [] [0, 5, 6, 7] [(0, (.slice A_p0 p0.length c_p0)), (5, (iv (w64 (x312 * (maxI (p0.length : Int) 1))))), (6, (iv p1)), (7, (iv x313))] [] (fun fb => by kernel_rfl) rfl trivial ?_
    refine WL.done rfl ?_
    refine WX.next ?_
    refine WC.seq ?_
    refine WC.region ?_
    refine seg 2 [] [0, 5, 6, 7, 15] [(0, (.slice A_p0 p0.length c_p0)), (5, (iv (w64 (x312 * (maxI (p0.length : Int) 1))))), (6, (iv p1)), (7, (iv x313)), (15, (.bool (decide (w64 (x312 * (maxI (p0.length : Int) 1)) > 5000))))] [] (fun fb => by kernel_rfl) rfl trivial ?_
    refine WL.done rfl ?_
    refine WX.next ?_
    rcases br_some hl319 with ⟨h321, hl319⟩ | ⟨h321, hl319⟩
    ·refine WC.condT2 (fun fb => by kernel_rfl) h321 ?_
     refine WC.seq ?_
     refine WC.region ?_
     refine seg 1 [] [4] [(4, (.bool false))] [] (fun fb => by kernel_rfl) rfl trivial ?_
     refine WL.done rfl ?_
     refine WX.next ?_
     refine WC.ret ?_
     injection hl319 with hl319
     subst hl319
     injection hf with hf
     subst hf
     exact WX.blockR (WX.thenR (WX.thenR (WX.blockR (WX.thenR (WX.ret_ [] (.bool false) [] (fun fb => by kernel_rfl) trivial ⟨_, rfl, rfl, hS318.keep⟩)))))
    refine WC.condF2 (fun fb => by kernel_rfl) h321 ?_
    refine WC.skip ?_
    refine WX.blockN (WX.next ?_)
    refine WC.region ?_
    refine seg 2 [] [0, 5, 6, 7] [(0, (.slice A_p0 p0.length c_p0)), (5, (iv (w64 (x312 * (maxI (p0.length : Int) 1))))), (6, (iv p1)), (7, (iv (w64 (x313 + 1))))] [] (fun fb => by kernel_rfl) rfl trivial ?_
    refine WL.done rfl ?_
    exact WX.again k316 (Nat.lt_succ_self _) (w64 (x312 * (maxI (p0.length : Int) 1)), w64 (x313 + 1)) [0, 5, 6, 7] rfl ⟨(hS318.subR [0]).sub [] (by decide), hl319⟩
   refine WC.condF2 (fun fb => by kernel_rfl) h320 ?_
   refine WC.exit ?_
   injection hl319 with hl319
   exact WX.thenX (WX.thenX (WX.blockHere (WX.to Kx314 () [] rfl ⟨(hS318.subR [0]).sub [] (by decide), hl319.symm⟩)))
 rintro y325 w322 ⟨hS323, hq324⟩
 subst hq324
 have hf := sum_inr hf
 refine WX.next ?_
 refine WC.seq ?_
 refine WC.region ?_
 refine seg 1 [] [4] [(4, (.bool true))] [] (fun fb => by kernel_rfl) rfl trivial ?_
 refine WL.done rfl ?_
 refine WX.next ?_
 refine WC.ret ?_
 injection hf with hf
 subst hf
 exact WX.ret_ [] (.bool true) [] (fun fb => by kernel_rfl) trivial ⟨_, rfl, rfl, hS323.keep⟩
theorem square_check_calls (k : Nat) (p0 : List Tile) (p1 : Int) (A_p0 : Option Addr) (c_p0 : Nat) (r : Int) (w : World) (hR0 : RO NoS w (rowR enc_Tile A_p0 c_p0 p0)) (hf : square_check k p0 p1 = some r) :
  CallsR Try.prog 41 #[(.slice A_p0 p0.length c_p0), (iv p1)] w (fun v w' => v = (iv r) ∧ Keeps NoS w w') := by
 have hS : St NoS w w [rowR enc_Tile A_p0 c_p0 p0] [] := St.init (ro_cons hR0 (ro_nil _ _))
 refine enter 21 Try.func41 rfl Try.ntmps41 rfl ?_
 unfold square_check at hf
 refine WC.seq ?_
 refine WC.region ?_
 refine seg 1 [] [0, 1] [(0, (.slice A_p0 p0.length c_p0)), (1, (iv p1))] [] (fun fb => by kernel_rfl) rfl trivial ?_
 refine WL.done rfl ?_
 refine WX.next ?_
 refine WC.seq ?_
 refine WC.block ?_
 refine WC.seq ?_
 refine WC.region ?_
 refine seg 1 [] [0, 1, 6] [(0, (.slice A_p0 p0.length c_p0)), (1, (iv p1)), (6, (.slice A_p0 p0.length c_p0))] [] (fun fb => by kernel_rfl) rfl trivial ?_
 obtain ⟨t297, ht298, hf⟩ := bind_some hf
 refine WL.call (some 7) 38 #[(.slice A_p0 p0.length c_p0)] (fun fb => by kernel_rfl) (tile_Valid_calls _ p0 A_p0 c_p0 t297 _ (hS.rd 0) ht298) (fun v w299 hR300 => ?_)
 obtain ⟨rfl, hk_⟩ := hR300
 have hS301 := hS.keepN hk_
 refine ⟨trivial, ?_⟩
 refine seg 4 [] [0, 1, 5] [(0, (.slice A_p0 p0.length c_p0)), (1, (iv p1)), (5, (.bool (!t297)))] [] (fun fb => by kernel_rfl) rfl trivial ?_
 refine WL.done rfl ?_
 refine WX.next ?_
 rcases br_some hf with ⟨h302, hf⟩ | ⟨h302, hf⟩
 ·refine WC.condT2 (fun fb => by kernel_rfl) h302 ?_
  refine WC.seq ?_
  refine WC.region ?_
  refine seg 1 [] [4] [(4, (iv 1))] [] (fun fb => by kernel_rfl) rfl trivial ?_
  refine WL.done rfl ?_
  refine WX.next ?_
  refine WC.ret ?_
  injection hf with hf
  subst hf
  exact WX.blockR (WX.thenR (WX.ret_ [] (iv 1) [] (fun fb => by kernel_rfl) trivial ⟨_, rfl, rfl, hS301.keep⟩))
 refine WC.condF2 (fun fb => by kernel_rfl) h302 ?_
 refine WC.seq ?_
 refine WC.region ?_
 refine seg 3 [] [0, 1, 12] [(0, (.slice A_p0 p0.length c_p0)), (1, (iv p1)), (12, (.bool (decide (p1 < 1))))] [] (fun fb => by kernel_rfl) rfl trivial ?_
 refine WL.cutV (T := Bool) 6 (fun t => [(15, (.bool t)), (0, (.slice A_p0 p0.length c_p0)), (1, (iv p1))]) (fun t => ((decide (p1 < 1)) || (decide (p1 > 8))) = t) (fun K => ?_) ?_
 ·
  rcases Bool.eq_false_or_eq_true (decide (p1 < 1)) with h303 | h303
  ·
   refine WL.setB 12 h303 rfl ?_
   refine seg 6 [] [0, 1, 15] [(0, (.slice A_p0 p0.length c_p0)), (1, (iv p1)), (15, (.bool true))] [] (fun fb => by kernel_rfl) rfl trivial ?_
   exact WL.toV K true [15, 0, 1] rfl (by first | (rw [h303]; done) | (rw [h303]; rfl))
  refine WL.setB 12 h303 rfl ?_
  refine seg 6 [] [0, 1, 15] [(0, (.slice A_p0 p0.length c_p0)), (1, (iv p1)), (15, (.bool (decide (p1 > 8))))] [] (fun fb => by kernel_rfl) rfl trivial ?_
  exact WL.toV K (decide (p1 > 8)) [15, 0, 1] rfl (by first | (rw [h303]; done) | (rw [h303]; rfl))
 rintro b304 rfl
 refine seg 7 [] [0, 1, 9] [(0, (.slice A_p0 p0.length c_p0)), (1, (iv p1)), (9, (.bool ((decide (p1 < 1)) || (decide (p1 > 8)))))] [] (fun fb => by kernel_rfl) rfl trivial ?_
 refine WL.done rfl ?_
 refine WX.next ?_
 rcases br_some hf with ⟨h305, hf⟩ | ⟨h305, hf⟩
 ·refine WC.condT2 (fun fb => by kernel_rfl) h305 ?_
  refine WC.seq ?_
  refine WC.region ?_
  refine seg 1 [] [4] [(4, (iv 2))] [] (fun fb => by kernel_rfl) rfl trivial ?_
  refine WL.done rfl ?_
  refine WX.next ?_
  refine WC.ret ?_
  injection hf with hf
  subst hf
  exact WX.blockR (WX.thenR (WX.ret_ [] (iv 2) [] (fun fb => by kernel_rfl) trivial ⟨_, rfl, rfl, hS301.keep⟩))
 refine WC.condF2 (fun fb => by kernel_rfl) h305 ?_
 refine WC.seq ?_
 refine WC.region ?_
 refine seg 2 [] [17, 18] [(17, (.slice A_p0 p0.length c_p0)), (18, (iv p1))] [] (fun fb => by kernel_rfl) rfl trivial ?_
 obtain ⟨t327, ht328, hf⟩ := bind_some hf
 refine WL.call (some 19) 45 #[(.slice A_p0 p0.length c_p0), (iv p1)] (fun fb => by kernel_rfl) (rows_Few_calls _ p0 p1 A_p0 c_p0 t327 _ (hS301.rd 0) ht328) (fun v w329 hR330 => ?_)
 obtain ⟨rfl, hk_⟩ := hR330
 have hS331 := hS301.keepN hk_
 refine ⟨trivial, ?_⟩
 refine seg 5 [] [16] [(16, (.bool (!t327)))] [] (fun fb => by kernel_rfl) rfl trivial ?_
 refine WL.done rfl ?_
 refine WX.next ?_
 rcases br_some hf with ⟨h332, hf⟩ | ⟨h332, hf⟩
 ·refine WC.condT2 (fun fb => by kernel_rfl) h332 ?_
  refine WC.seq ?_
  refine WC.region ?_
  refine seg 1 [] [4] [(4, (iv 4))] [] (fun fb => by kernel_rfl) rfl trivial ?_
  refine WL.done rfl ?_
  refine WX.next ?_
  refine WC.ret ?_
  injection hf with hf
  subst hf
  exact WX.blockR (WX.thenR (WX.ret_ [] (iv 4) [] (fun fb => by kernel_rfl) trivial ⟨_, rfl, rfl, hS331.keep⟩))
 refine WC.condF2 (fun fb => by kernel_rfl) h332 ?_
 refine WC.skip ?_
 refine WX.blockN (WX.next ?_)
 refine WC.seq ?_
 refine WC.region ?_
 refine seg 1 [] [4] [(4, (iv 0))] [] (fun fb => by kernel_rfl) rfl trivial ?_
 refine WL.done rfl ?_
 refine WX.next ?_
 refine WC.ret ?_
 injection hf with hf
 subst hf
 exact WX.ret_ [] (iv 0) [] (fun fb => by kernel_rfl) trivial ⟨_, rfl, rfl, hS331.keep⟩
theorem rows_rowOf_calls (k : Nat) (p0 : List Tile) (p1 : List Int) (A_p0 : Option Addr) (c_p0 : Nat) (A_p1 : Option Addr) (c_p1 : Nat) (r : Row) (w : World) (hR0 : RO NoS w (rowR enc_Tile A_p0 c_p0 p0)) (hR1 : RO NoS w (rowR encInt A_p1 c_p1 p1)) (hf : rows_rowOf k p0 p1 = some r) :
  CallsR Try.prog 83 #[(.slice A_p0 p0.length c_p0), (.slice A_p1 p1.length c_p1)] w (fun v w' => ∃ (A1_ : Option Addr), ∃ (c1_ : Nat), v = (.agg #[(.slice A1_ r.Cells.length c1_), (iv r.South.e0), (iv r.South.e1), (iv r.South.e2), (iv r.South.e3), (iv r.South.e4), (iv r.South.e5), (iv r.South.e6), (iv r.South.e7), (iv r.North.e0), (iv r.North.e1), (iv r.North.e2), (iv r.North.e3), (iv r.North.e4), (iv r.North.e5), (iv r.North.e6), (iv r.North.e7), (iv r.West), (iv r.East)]) ∧ St NoS w w' [] [rowO 3 encInt A1_ c1_ r.Cells]) := by
 have hS : St NoS w w [rowR enc_Tile A_p0 c_p0 p0, rowR encInt A_p1 c_p1 p1] [] := St.init (ro_cons hR0 (ro_cons hR1 (ro_nil _ _)))
 refine enter 55 Try.func83 rfl Try.ntmps83 rfl ?_
 unfold rows_rowOf at hf
 refine WC.seq ?_
 refine WC.region ?_
 refine WL.new hS 4 [] (fun g => (.pointer (some ⟨g, 0, none⟩))) (.cells #[(.slice none 0 0), (iv 0), (iv 0), (iv 0), (iv 0), (iv 0), (iv 0), (iv 0), (iv 0), (iv 0), (iv 0), (iv 0), (iv 0), (iv 0), (iv 0), (iv 0), (iv 0), (iv 0), (iv 0)] 88 (0, 0)) [] (fun fb g => by kernel_rfl) trivial (fun g451 w452 hS453 => ?_)
 refine ⟨trivial, ?_⟩
 refine WL.done rfl ?_
 refine WX.next ?_
 refine WC.seq ?_
 refine WC.region ?_
 refine seg 1 [] [0, 1, 4, 8] [(0, (.slice A_p0 p0.length c_p0)), (1, (.slice A_p1 p1.length c_p1)), (4, (pt g451)), (8, (.slice A_p1 p1.length c_p1))] [] (fun fb => by kernel_rfl) rfl trivial ?_
 have hS455 := hS453.nilrow 3 encInt
 obtain ⟨h456, hf⟩ := as_some hf
 refine WL.append hS455 0 (d := 9) (tS := 36) (z := (iv 0)) (bytes := 8) (c2 := c_p1) rfl (fun fb => by kernel_rfl) (hS455.rd 1).1 (by kernel_rfl) (by kernel_rfl) rfl (by decide) h456 (by decide) [1] (by decide) (by decide) (fun A457 c458 w459 hS460 => ?_)
 refine ⟨trivial, ?_⟩
 refine seg 3 [] [0, 1, 4, 10] [(0, (.slice A_p0 p0.length c_p0)), (1, (.slice A_p1 p1.length c_p1)), (4, (pt g451)), (10, (.agg #[(.slice A457 (([] : List Int) ++ p1).length c458), (iv 0), (iv 0), (iv 0), (iv 0), (iv 0), (iv 0), (iv 0), (iv 0), (iv 0), (iv 0), (iv 0), (iv 0), (iv 0), (iv 0), (iv 0), (iv 0), (iv 0), (iv 0)]))] [] (fun fb => by kernel_rfl) rfl trivial ?_
 refine WL.new hS460 5 [] (fun g => (.pointer (some ⟨g, 0, none⟩))) (.cells #[(.slice none 0 0), (iv 0), (iv 0), (iv 0), (iv 0), (iv 0), (iv 0), (iv 0), (iv 0), (iv 0), (iv 0), (iv 0), (iv 0), (iv 0), (iv 0), (iv 0), (iv 0), (iv 0), (iv 0)] 88 (0, 0)) [] (fun fb g => by kernel_rfl) trivial (fun g461 w462 hS463 => ?_)
 refine ⟨trivial, ?_⟩
 refine WL.store hS463 0 rfl [(0, (.slice A457 (([] : List Int) ++ p1).length c458)), (1, (iv 0)), (2, (iv 0)), (3, (iv 0)), (4, (iv 0)), (5, (iv 0)), (6, (iv 0)), (7, (iv 0)), (8, (iv 0)), (9, (iv 0)), (10, (iv 0)), (11, (iv 0)), (12, (iv 0)), (13, (iv 0)), (14, (iv 0)), (15, (iv 0)), (16, (iv 0)), (17, (iv 0)), (18, (iv 0))] #[(.slice A457 (([] : List Int) ++ p1).length c458), (iv 0), (iv 0), (iv 0), (iv 0), (iv 0), (iv 0), (iv 0), (iv 0), (iv 0), (iv 0), (iv 0), (iv 0), (iv 0), (iv 0), (iv 0), (iv 0), (iv 0), (iv 0)] (fun fb => by kernel_rfl) (by kernel_rfl) (by kernel_rfl) [1, 2] (by decide) (by decide) (fun w465 hS466 => ?_)
 refine ⟨trivial, ?_⟩
 refine WL.done rfl ?_
 refine WX.next ?_
 refine WC.seq ?_
 refine WC.seq ?_
 refine WC.region ?_
 refine seg 3 [] [0, 1, 4, 5, 11, 12, 13] [(0, (.slice A_p0 p0.length c_p0)), (1, (.slice A_p1 p1.length c_p1)), (4, (pt g451)), (5, (pt g461)), (11, (.slice A_p1 p1.length c_p1)), (12, (iv (p1.length : Int))), (13, (iv 0))] [] (fun fb => by kernel_rfl) rfl trivial ?_
 refine WL.done rfl ?_
 refine WX.next ?_
 obtain ⟨x545, hx546, hf⟩ := bind_some hf
 refine WC.cutN (T := A8_Int × A8_Int) (fun t => [(0, (.slice A_p0 p0.length c_p0)), (1, (.slice A_p1 p1.length c_p1)), (4, (pt g451)), (5, (pt g461))]) (fun t w1 => St NoS w w1 [rowR enc_Tile A_p0 c_p0 p0, rowR encInt A_p1 c_p1 p1] [blk g451 (.cells #[(.slice none 0 0), (iv 0), (iv 0), (iv 0), (iv 0), (iv 0), (iv 0), (iv 0), (iv 0), (iv 0), (iv 0), (iv 0), (iv 0), (iv 0), (iv 0), (iv 0), (iv 0), (iv 0), (iv 0)] 88 (0, 0)), blk g461 (.cells #[(.slice A457 (([] : List Int) ++ p1).length c458), (iv t.1.e0), (iv t.1.e1), (iv t.1.e2), (iv t.1.e3), (iv t.1.e4), (iv t.1.e5), (iv t.1.e6), (iv t.1.e7), (iv t.2.e0), (iv t.2.e1), (iv t.2.e2), (iv t.2.e3), (iv t.2.e4), (iv t.2.e5), (iv t.2.e6), (iv t.2.e7), (iv 0), (iv 0)] 88 (0, 0)), rowO 3 encInt A457 c458 (([] : List Int) ++ p1)] ∧ x545 = t) (fun Kx545 => ?_) ?_
 ·
  refine WC.block ?_
  refine WC.loop (T := A8_Int × A8_Int × Int) (fun t => [(0, (.slice A_p0 p0.length c_p0)), (1, (.slice A_p1 p1.length c_p1)), (4, (pt g451)), (5, (pt g461)), (11, (.slice A_p1 p1.length c_p1)), (12, (iv (p1.length : Int))), (13, (iv t.2.2))]) (fun n t w1 => St NoS w w1 [rowR enc_Tile A_p0 c_p0 p0, rowR encInt A_p1 c_p1 p1] [blk g451 (.cells #[(.slice none 0 0), (iv 0), (iv 0), (iv 0), (iv 0), (iv 0), (iv 0), (iv 0), (iv 0), (iv 0), (iv 0), (iv 0), (iv 0), (iv 0), (iv 0), (iv 0), (iv 0), (iv 0), (iv 0)] 88 (0, 0)), blk g461 (.cells #[(.slice A457 (([] : List Int) ++ p1).length c458), (iv t.1.e0), (iv t.1.e1), (iv t.1.e2), (iv t.1.e3), (iv t.1.e4), (iv t.1.e5), (iv t.1.e6), (iv t.1.e7), (iv t.2.1.e0), (iv t.2.1.e1), (iv t.2.1.e2), (iv t.2.1.e3), (iv t.2.1.e4), (iv t.2.1.e5), (iv t.2.1.e6), (iv t.2.1.e7), (iv 0), (iv 0)] 88 (0, 0)), rowO 3 encInt A457 c458 (([] : List Int) ++ p1)] ∧ rows_rowOf.l0 n t.1 t.2.1 t.2.2 p0 p1 = some x545) k ((A8_Int.mk 0 0 0 0 0 0 0 0), (A8_Int.mk 0 0 0 0 0 0 0 0), 0) [0, 1, 4, 5, 11, 12, 13] rfl ⟨(hS466.subR [0, 1]).sub [2, 0, 1] (by decide), hx546⟩ ?_
  rintro k547 ⟨a540, a541, x542⟩ w548 ⟨hS549, hl550⟩
  cases k547 with
  | zero => rw [rows_rowOf.l0] at hl550; cases hl550
  | succ k547 =>
   rw [rows_rowOf.l0] at hl550
   refine WC.seq ?_
   refine WC.region ?_
   refine seg 1 [] [0, 1, 4, 5, 11, 12, 13, 14] [(0, (.slice A_p0 p0.length c_p0)), (1, (.slice A_p1 p1.length c_p1)), (4, (pt g451)), (5, (pt g461)), (11, (.slice A_p1 p1.length c_p1)), (12, (iv (p1.length : Int))), (13, (iv x542)), (14, (.bool (decide (x542 < (p1.length : Int)))))] [] (fun fb => by kernel_rfl) rfl trivial ?_
   refine WL.done rfl ?_
   refine WX.next ?_
   refine WC.seq ?_
   rcases br_some hl550 with ⟨h551, hl550⟩ | ⟨h551, hl550⟩
   ·refine WC.condT2 (fun fb => by kernel_rfl) h551 ?_
    refine WC.skip ?_
    refine WX.next ?_
    refine WC.seq ?_
    refine WC.block ?_
    refine WC.seq ?_
    refine WC.region ?_
    refine seg 1 [] [0, 1, 4, 5, 11, 12, 13, 15] [(0, (.slice A_p0 p0.length c_p0)), (1, (.slice A_p1 p1.length c_p1)), (4, (pt g451)), (5, (pt g461)), (11, (.slice A_p1 p1.length c_p1)), (12, (iv (p1.length : Int))), (13, (iv x542)), (15, (iv x542))] [] (fun fb => by kernel_rfl) rfl trivial ?_
    obtain ⟨h552, hl550⟩ := as_some hl550
    refine seg 5 [.v (iv (rdD p1 x542 0))] [0, 1, 4, 5, 6, 7, 11, 12, 13] [(0, (.slice A_p0 p0.length c_p0)), (1, (.slice A_p1 p1.length c_p1)), (4, (pt g451)), (5, (pt g461)), (6, (iv x542)), (7, (iv (rdD p1 x542 0))), (11, (.slice A_p1 p1.length c_p1)), (12, (iv (p1.length : Int))), (13, (iv x542))] [.idx A_p1 x542 p1.length, .cell ((adr A_p1).add ((x542).toNat * 1)) (iv (rdD p1 x542 0))] (fun fb => by kernel_rfl) rfl ⟨rowR.adr (hS549.rd 1).1 h552.1 h552.2, rowR.cell (hS549.rd 1).1 0 h552.1 h552.2 0 rfl, trivial⟩ ?_
    refine WL.done rfl ?_
    refine WX.next ?_
    obtain ⟨h567, hl550⟩ := as_some hl550
    obtain ⟨h568, hl550⟩ := as_some hl550
    refine WC.regionD ([(6, (((adr A_p0).add (((rdD p1 x542 0)).toNat * 4)).add 2), (iv ((rdD p0 (rdD p1 x542 0) z_Tile).S))), (11, ((adr A_p0).add (((rdD p1 x542 0)).toNat * 4)), (iv ((rdD p0 (rdD p1 x542 0) z_Tile).N)))], [0, 1, 2, 3, 4, 5, 6, 7, 8, 9, 10, 11, 12, 13, 15, 16], [[], [], [], [], [2, 3], [2, 3, 4], [2, 3, 4, 5], [], [], [7, 8], [7, 8, 9], [7, 8, 9, 10], [], [0, 2, 3, 4, 5, 6, 12], [0, 2, 3, 4, 5, 6, 12, 13], [], [0, 1, 2, 3, 4, 5, 6, 7, 8, 9, 10, 11, 12, 13, 14, 15], [0, 1, 2, 3, 4, 5, 6, 7, 8, 9, 10, 11, 12, 13, 14, 15, 16]]) [[0, 1, 2, 3, 4, 5, 6, 7, 8, 9, 10, 11, 12, 13, 15, 14, 16, 17]] (by kernel_rfl) (by kernel_rfl) (NoPanic.block (NoPanic.seq (NoPanic.seq (NoPanic.block (NoPanic.seq (NoPanic.body)))))) ?_
    have hS564 := hS549.drew
    revert hS564
    generalize World.drew w548 = w563
    intro hS564
    refine ⟨⟨rowR.cell (hS564.rd 0).1 z_Tile h567.1 h567.2 2 rfl, rowR.cell (hS564.rd 0).1 z_Tile h567.1 h567.2 0 rfl, trivial⟩, forallC ?_ (forallN)⟩
    refine segF 15 [.v (iv ((rdD p0 (rdD p1 x542 0) z_Tile).S)), .v (iv ((rdD p0 (rdD p1 x542 0) z_Tile).N))] [0, 1, 4, 5, 11, 12, 13, 19, 24, 29, 31, 32] [(0, (.slice A_p0 p0.length c_p0)), (1, (.slice A_p1 p1.length c_p1)), (4, (pt g451)), (5, (pt g461)), (11, (.slice A_p1 p1.length c_p1)), (12, (iv (p1.length : Int))), (13, (iv x542)), (19, (iv x542)), (24, (iv ((rdD p0 (rdD p1 x542 0) z_Tile).S))), (29, (iv ((rdD p0 (rdD p1 x542 0) z_Tile).N))), (31, (.pointer (some (flatA ⟨g461, 1, none⟩ (x542.toNat * 1))))), (32, (.pointer (some ⟨g461, 9, none⟩)))] [.idx A_p0 (rdD p1 x542 0) p0.length, .idx A_p0 (rdD p1 x542 0) p0.length, .idx (some ⟨0, 0, none⟩) x542 8] [0, 1] [(6, (((adr A_p0).add (((rdD p1 x542 0)).toNat * 4)).add 2), (iv ((rdD p0 (rdD p1 x542 0) z_Tile).S))), (11, ((adr A_p0).add (((rdD p1 x542 0)).toNat * 4)), (iv ((rdD p0 (rdD p1 x542 0) z_Tile).N)))] (fun fb => by kernel_rfl) rfl ⟨rowR.adr (hS564.rd 0).1 h567.1 h567.2, rowR.adr (hS564.rd 0).1 h567.1 h567.2, ⟨h568.1, h568.2, rfl⟩, trivial⟩ rfl ?_
    have h571 := (cases8 (Q := fun z_ => (([(1 + z_.toNat * 1, (iv ((rdD p0 (rdD p1 x542 0) z_Tile).S)))] : List (Nat × Value)).all fun p_ => Nat.blt p_.1 (#[(.slice A457 (([] : List Int) ++ p1).length c458), (iv a540.e0), (iv a540.e1), (iv a540.e2), (iv a540.e3), (iv a540.e4), (iv a540.e5), (iv a540.e6), (iv a540.e7), (iv a541.e0), (iv a541.e1), (iv a541.e2), (iv a541.e3), (iv a541.e4), (iv a541.e5), (iv a541.e6), (iv a541.e7), (iv 0), (iv 0)] : Array Value).size) = true) h568 (by kernel_rfl) (by kernel_rfl) (by kernel_rfl) (by kernel_rfl) (by kernel_rfl) (by kernel_rfl) (by kernel_rfl) (by kernel_rfl))
    have h572 := (cases8 (Q := fun z_ => wrc (#[(.slice A457 (([] : List Int) ++ p1).length c458), (iv a540.e0), (iv a540.e1), (iv a540.e2), (iv a540.e3), (iv a540.e4), (iv a540.e5), (iv a540.e6), (iv a540.e7), (iv a541.e0), (iv a541.e1), (iv a541.e2), (iv a541.e3), (iv a541.e4), (iv a541.e5), (iv a541.e6), (iv a541.e7), (iv 0), (iv 0)] : Array Value) [(1 + z_.toNat * 1, (iv ((rdD p0 (rdD p1 x542 0) z_Tile).S)))] = (#[(.slice A457 (([] : List Int) ++ p1).length c458), (iv ((A8_Int.set a540 z_ ((rdD p0 (rdD p1 x542 0) z_Tile).S)).e0)), (iv ((A8_Int.set a540 z_ ((rdD p0 (rdD p1 x542 0) z_Tile).S)).e1)), (iv ((A8_Int.set a540 z_ ((rdD p0 (rdD p1 x542 0) z_Tile).S)).e2)), (iv ((A8_Int.set a540 z_ ((rdD p0 (rdD p1 x542 0) z_Tile).S)).e3)), (iv ((A8_Int.set a540 z_ ((rdD p0 (rdD p1 x542 0) z_Tile).S)).e4)), (iv ((A8_Int.set a540 z_ ((rdD p0 (rdD p1 x542 0) z_Tile).S)).e5)), (iv ((A8_Int.set a540 z_ ((rdD p0 (rdD p1 x542 0) z_Tile).S)).e6)), (iv ((A8_Int.set a540 z_ ((rdD p0 (rdD p1 x542 0) z_Tile).S)).e7)), (iv a541.e0), (iv a541.e1), (iv a541.e2), (iv a541.e3), (iv a541.e4), (iv a541.e5), (iv a541.e6), (iv a541.e7), (iv 0), (iv 0)] : Array Value)) h568 (by kernel_rfl) (by kernel_rfl) (by kernel_rfl) (by kernel_rfl) (by kernel_rfl) (by kernel_rfl) (by kernel_rfl) (by kernel_rfl))
    refine WL.store hS564 1 rfl [(1 + x542.toNat * 1, (iv ((rdD p0 (rdD p1 x542 0) z_Tile).S)))] #[(.slice A457 (([] : List Int) ++ p1).length c458), (iv ((A8_Int.set a540 x542 ((rdD p0 (rdD p1 x542 0) z_Tile).S)).e0)), (iv ((A8_Int.set a540 x542 ((rdD p0 (rdD p1 x542 0) z_Tile).S)).e1)), (iv ((A8_Int.set a540 x542 ((rdD p0 (rdD p1 x542 0) z_Tile).S)).e2)), (iv ((A8_Int.set a540 x542 ((rdD p0 (rdD p1 x542 0) z_Tile).S)).e3)), (iv ((A8_Int.set a540 x542 ((rdD p0 (rdD p1 x542 0) z_Tile).S)).e4)), (iv ((A8_Int.set a540 x542 ((rdD p0 (rdD p1 x542 0) z_Tile).S)).e5)), (iv ((A8_Int.set a540 x542 ((rdD p0 (rdD p1 x542 0) z_Tile).S)).e6)), (iv ((A8_Int.set a540 x542 ((rdD p0 (rdD p1 x542 0) z_Tile).S)).e7)), (iv a541.e0), (iv a541.e1), (iv a541.e2), (iv a541.e3), (iv a541.e4), (iv a541.e5), (iv a541.e6), (iv a541.e7), (iv 0), (iv 0)] (fun fb => by kernel_rfl) h571 h572 [0, 2] (by decide) (by decide) (fun w569 hS570 => ?_)
    refine ⟨⟨rowR.cell (hS570.rd 0).1 z_Tile h567.1 h567.2 0 rfl, trivial⟩, ?_⟩
    refine seg 17 [] [0, 1, 4, 5, 11, 12, 13, 29, 33] [(0, (.slice A_p0 p0.length c_p0)), (1, (.slice A_p1 p1.length c_p1)), (4, (pt g451)), (5, (pt g461)), (11, (.slice A_p1 p1.length c_p1)), (12, (iv (p1.length : Int))), (13, (iv x542)), (29, (iv ((rdD p0 (rdD p1 x542 0) z_Tile).N))), (33, (.pointer (some (flatA ⟨g461, 9, none⟩ (x542.toNat * 1)))))] [.idx (some ⟨0, 0, none⟩) x542 8] (fun fb => by kernel_rfl) rfl ⟨⟨h568.1, h568.2, rfl⟩, trivial⟩ ?_
    have h575 := (cases8 (Q := fun z_ => (([(9 + z_.toNat * 1, (iv ((rdD p0 (rdD p1 x542 0) z_Tile).N)))] : List (Nat × Value)).all fun p_ => Nat.blt p_.1 (#[(.slice A457 (([] : List Int) ++ p1).length c458), (iv ((A8_Int.set a540 x542 ((rdD p0 (rdD p1 x542 0) z_Tile).S)).e0)), (iv ((A8_Int.set a540 x542 ((rdD p0 (rdD p1 x542 0) z_Tile).S)).e1)), (iv ((A8_Int.set a540 x542 ((rdD p0 (rdD p1 x542 0) z_Tile).S)).e2)), (iv ((A8_Int.set a540 x542 ((rdD p0 (rdD p1 x542 0) z_Tile).S)).e3)), (iv ((A8_Int.set a540 x542 ((rdD p0 (rdD p1 x542 0) z_Tile).S)).e4)), (iv ((A8_Int.set a540 x542 ((rdD p0 (rdD p1 x542 0) z_Tile).S)).e5)), (iv ((A8_Int.set a540 x542 ((rdD p0 (rdD p1 x542 0) z_Tile).S)).e6)), (iv ((A8_Int.set a540 x542 ((rdD p0 (rdD p1 x542 0) z_Tile).S)).e7)), (iv a541.e0), (iv a541.e1), (iv a541.e2), (iv a541.e3), (iv a541.e4), (iv a541.e5), (iv a541.e6), (iv a541.e7), (iv 0), (iv 0)] : Array Value).size) = true) h568 (by kernel_rfl) (by kernel_rfl) (by kernel_rfl) (by kernel_rfl) (by kernel_rfl) (by kernel_rfl) (by kernel_rfl) (by kernel_rfl))
    have h576 := (cases8 (Q := fun z_ => wrc (#[(.slice A457 (([] : List Int) ++ p1).length c458), (iv ((A8_Int.set a540 x542 ((rdD p0 (rdD p1 x542 0) z_Tile).S)).e0)), (iv ((A8_Int.set a540 x542 ((rdD p0 (rdD p1 x542 0) z_Tile).S)).e1)), (iv ((A8_Int.set a540 x542 ((rdD p0 (rdD p1 x542 0) z_Tile).S)).e2)), (iv ((A8_Int.set a540 x542 ((rdD p0 (rdD p1 x542 0) z_Tile).S)).e3)), (iv ((A8_Int.set a540 x542 ((rdD p0 (rdD p1 x542 0) z_Tile).S)).e4)), (iv ((A8_Int.set a540 x542 ((rdD p0 (rdD p1 x542 0) z_Tile).S)).e5)), (iv ((A8_Int.set a540 x542 ((rdD p0 (rdD p1 x542 0) z_Tile).S)).e6)), (iv ((A8_Int.set a540 x542 ((rdD p0 (rdD p1 x542 0) z_Tile).S)).e7)), (iv a541.e0), (iv a541.e1), (iv a541.e2), (iv a541.e3), (iv a541.e4), (iv a541.e5), (iv a541.e6), (iv a541.e7), (iv 0), (iv 0)] : Array Value) [(9 + z_.toNat * 1, (iv ((rdD p0 (rdD p1 x542 0) z_Tile).N)))] = (#[(.slice A457 (([] : List Int) ++ p1).length c458), (iv ((A8_Int.set a540 x542 ((rdD p0 (rdD p1 x542 0) z_Tile).S)).e0)), (iv ((A8_Int.set a540 x542 ((rdD p0 (rdD p1 x542 0) z_Tile).S)).e1)), (iv ((A8_Int.set a540 x542 ((rdD p0 (rdD p1 x542 0) z_Tile).S)).e2)), (iv ((A8_Int.set a540 x542 ((rdD p0 (rdD p1 x542 0) z_Tile).S)).e3)), (iv ((A8_Int.set a540 x542 ((rdD p0 (rdD p1 x542 0) z_Tile).S)).e4)), (iv ((A8_Int.set a540 x542 ((rdD p0 (rdD p1 x542 0) z_Tile).S)).e5)), (iv ((A8_Int.set a540 x542 ((rdD p0 (rdD p1 x542 0) z_Tile).S)).e6)), (iv ((A8_Int.set a540 x542 ((rdD p0 (rdD p1 x542 0) z_Tile).S)).e7)), (iv ((A8_Int.set a541 z_ ((rdD p0 (rdD p1 x542 0) z_Tile).N)).e0)), (iv ((A8_Int.set a541 z_ ((rdD p0 (rdD p1 x542 0) z_Tile).N)).e1)), (iv ((A8_Int.set a541 z_ ((rdD p0 (rdD p1 x542 0) z_Tile).N)).e2)), (iv ((A8_Int.set a541 z_ ((rdD p0 (rdD p1 x542 0) z_Tile).N)).e3)), (iv ((A8_Int.set a541 z_ ((rdD p0 (rdD p1 x542 0) z_Tile).N)).e4)), (iv ((A8_Int.set a541 z_ ((rdD p0 (rdD p1 x542 0) z_Tile).N)).e5)), (iv ((A8_Int.set a541 z_ ((rdD p0 (rdD p1 x542 0) z_Tile).N)).e6)), (iv ((A8_Int.set a541 z_ ((rdD p0 (rdD p1 x542 0) z_Tile).N)).e7)), (iv 0), (iv 0)] : Array Value)) h568 (by kernel_rfl) (by kernel_rfl) (by kernel_rfl) (by kernel_rfl) (by kernel_rfl) (by kernel_rfl) (by kernel_rfl) (by kernel_rfl))
    refine WL.store hS570 0 rfl [(9 + x542.toNat * 1, (iv ((rdD p0 (rdD p1 x542 0) z_Tile).N)))] #[(.slice A457 (([] : List Int) ++ p1).length c458), (iv ((A8_Int.set a540 x542 ((rdD p0 (rdD p1 x542 0) z_Tile).S)).e0)), (iv ((A8_Int.set a540 x542 ((rdD p0 (rdD p1 x542 0) z_Tile).S)).e1)), (iv ((A8_Int.set a540 x542 ((rdD p0 (rdD p1 x542 0) z_Tile).S)).e2)), (iv ((A8_Int.set a540 x542 ((rdD p0 (rdD p1 x542 0) z_Tile).S)).e3)), (iv ((A8_Int.set a540 x542 ((rdD p0 (rdD p1 x542 0) z_Tile).S)).e4)), (iv ((A8_Int.set a540 x542 ((rdD p0 (rdD p1 x542 0) z_Tile).S)).e5)), (iv ((A8_Int.set a540 x542 ((rdD p0 (rdD p1 x542 0) z_Tile).S)).e6)), (iv ((A8_Int.set a540 x542 ((rdD p0 (rdD p1 x542 0) z_Tile).S)).e7)), (iv ((A8_Int.set a541 x542 ((rdD p0 (rdD p1 x542 0) z_Tile).N)).e0)), (iv ((A8_Int.set a541 x542 ((rdD p0 (rdD p1 x542 0) z_Tile).N)).e1)), (iv ((A8_Int.set a541 x542 ((rdD p0 (rdD p1 x542 0) z_Tile).N)).e2)), (iv ((A8_Int.set a541 x542 ((rdD p0 (rdD p1 x542 0) z_Tile).N)).e3)), (iv ((A8_Int.set a541 x542 ((rdD p0 (rdD p1 x542 0) z_Tile).N)).e4)), (iv ((A8_Int.set a541 x542 ((rdD p0 (rdD p1 x542 0) z_Tile).N)).e5)), (iv ((A8_Int.set a541 x542 ((rdD p0 (rdD p1 x542 0) z_Tile).N)).e6)), (iv ((A8_Int.set a541 x542 ((rdD p0 (rdD p1 x542 0) z_Tile).N)).e7)), (iv 0), (iv 0)] (fun fb => by kernel_rfl) h575 h576 [1, 2] (by decide) (by decide) (fun w573 hS574 => ?_)
    refine ⟨trivial, ?_⟩
    refine WL.done rfl ?_
    refine WX.blockN (WX.next ?_)
    refine WC.region ?_
    refine seg 2 [] [0, 1, 4, 5, 11, 12, 13] [(0, (.slice A_p0 p0.length c_p0)), (1, (.slice A_p1 p1.length c_p1)), (4, (pt g451)), (5, (pt g461)), (11, (.slice A_p1 p1.length c_p1)), (12, (iv (p1.length : Int))), (13, (iv (w64 (x542 + 1))))] [] (fun fb => by kernel_rfl) rfl trivial ?_
    refine WL.done rfl ?_
    exact WX.again k547 (Nat.lt_succ_self _) ((A8_Int.set a540 x542 ((rdD p0 (rdD p1 x542 0) z_Tile).S)), (A8_Int.set a541 x542 ((rdD p0 (rdD p1 x542 0) z_Tile).N)), w64 (x542 + 1)) [0, 1, 4, 5, 11, 12, 13] rfl ⟨(hS574.subR [0, 1]).sub [1, 0, 2] (by decide), hl550⟩
   refine WC.condF2 (fun fb => by kernel_rfl) h551 ?_
   refine WC.exit ?_
   injection hl550 with hl550
   exact WX.thenX (WX.thenX (WX.blockHere (WX.to Kx545 (a540, a541) [0, 1, 4, 5] rfl ⟨(hS549.subR [0, 1]).sub [0, 1, 2] (by decide), hl550.symm⟩)))
 rintro y580 w577 ⟨hS578, hq579⟩
 subst hq579
 refine WX.next ?_
 refine WC.seq ?_
 obtain ⟨h595, hf⟩ := as_some hf
 obtain ⟨h596, hf⟩ := as_some hf
 obtain ⟨h597, hf⟩ := as_some hf
 obtain ⟨h598, hf⟩ := as_some hf
 refine WC.regionD ([(3, ((adr A_p1).add (((0 : Int)).toNat * 1)), (iv (rdD p1 (0 : Int) 0))), (6, (((adr A_p0).add (((rdD p1 (0 : Int) 0)).toNat * 4)).add 3), (iv ((rdD p0 (rdD p1 (0 : Int) 0) z_Tile).W))), (13, ((adr A_p1).add ((w64 ((p1.length : Int) - 1)).toNat * 1)), (iv (rdD p1 (w64 ((p1.length : Int) - 1)) 0))), (16, (((adr A_p0).add (((rdD p1 (w64 ((p1.length : Int) - 1)) 0)).toNat * 4)).add 1), (iv ((rdD p0 (rdD p1 (w64 ((p1.length : Int) - 1)) 0) z_Tile).E)))], [0, 1, 2, 3, 4, 5, 6, 7, 8, 9, 10, 11, 12, 13, 14, 15, 16, 17, 19], [[], [], [1], [1, 2], [0, 1, 2, 3], [0, 1, 2, 3, 4], [0, 1, 2, 3, 4, 5], [], [], [], [9], [9, 10], [8, 9, 10, 11], [8, 9, 10, 11, 12], [7, 8, 9, 10, 11, 12, 13], [7, 8, 9, 10, 11, 12, 13, 14], [7, 8, 9, 10, 11, 12, 13, 14, 15], [0, 1, 2, 3, 4, 5, 6], [0, 1, 2, 3, 4, 5, 6, 17], [0, 1, 2, 3, 4, 5, 6, 7, 8, 9, 10, 11, 12, 13, 14, 15, 16, 17, 18], [0, 1, 2, 3, 4, 5, 6, 7, 8, 9, 10, 11, 12, 13, 14, 15, 16, 17, 18, 19]]) [[0, 1, 2, 3, 4, 5, 6, 7, 8, 9, 10, 11, 12, 13, 14, 15, 16, 17, 18, 19, 20]] (by kernel_rfl) (by kernel_rfl) (NoPanic.seq (NoPanic.body)) ?_
 have hS590 := hS578.drew
 revert hS590
 generalize World.drew w577 = w589
 intro hS590
 refine ⟨⟨rowR.cell (hS590.rd 1).1 0 h595.1 h595.2 0 rfl, rowR.cell (hS590.rd 0).1 z_Tile h596.1 h596.2 3 rfl, rowR.cell (hS590.rd 1).1 0 h597.1 h597.2 0 rfl, rowR.cell (hS590.rd 0).1 z_Tile h598.1 h598.2 1 rfl, trivial⟩, forallC ?_ (forallN)⟩
 refine segF 18 [.v (iv (rdD p1 (0 : Int) 0)), .v (iv ((rdD p0 (rdD p1 (0 : Int) 0) z_Tile).W)), .v (iv (rdD p1 (w64 ((p1.length : Int) - 1)) 0)), .v (iv ((rdD p0 (rdD p1 (w64 ((p1.length : Int) - 1)) 0) z_Tile).E))] [4, 5, 41, 51, 52] [(4, (pt g451)), (5, (pt g461)), (41, (iv ((rdD p0 (rdD p1 (0 : Int) 0) z_Tile).W))), (51, (iv ((rdD p0 (rdD p1 (w64 ((p1.length : Int) - 1)) 0) z_Tile).E))), (52, (.pointer (some ⟨g461, 17, none⟩)))] [.idx A_p1 (0 : Int) p1.length, .idx A_p0 (rdD p1 (0 : Int) 0) p0.length, .idx A_p1 (w64 ((p1.length : Int) - 1)) p1.length, .idx A_p0 (rdD p1 (w64 ((p1.length : Int) - 1)) 0) p0.length] [0, 1, 2, 3] [(3, ((adr A_p1).add (((0 : Int)).toNat * 1)), (iv (rdD p1 (0 : Int) 0))), (6, (((adr A_p0).add (((rdD p1 (0 : Int) 0)).toNat * 4)).add 3), (iv ((rdD p0 (rdD p1 (0 : Int) 0) z_Tile).W))), (13, ((adr A_p1).add ((w64 ((p1.length : Int) - 1)).toNat * 1)), (iv (rdD p1 (w64 ((p1.length : Int) - 1)) 0))), (16, (((adr A_p0).add (((rdD p1 (w64 ((p1.length : Int) - 1)) 0)).toNat * 4)).add 1), (iv ((rdD p0 (rdD p1 (w64 ((p1.length : Int) - 1)) 0) z_Tile).E)))] (fun fb => by kernel_rfl) rfl ⟨rowR.adr (hS590.rd 1).1 h595.1 h595.2, rowR.adr (hS590.rd 0).1 h596.1 h596.2, rowR.adr (hS590.rd 1).1 h597.1 h597.2, rowR.adr (hS590.rd 0).1 h598.1 h598.2, trivial⟩ rfl ?_
 refine WL.store hS590 1 rfl [(17, (iv ((rdD p0 (rdD p1 (0 : Int) 0) z_Tile).W)))] #[(.slice A457 (([] : List Int) ++ p1).length c458), (iv x545.1.e0), (iv x545.1.e1), (iv x545.1.e2), (iv x545.1.e3), (iv x545.1.e4), (iv x545.1.e5), (iv x545.1.e6), (iv x545.1.e7), (iv x545.2.e0), (iv x545.2.e1), (iv x545.2.e2), (iv x545.2.e3), (iv x545.2.e4), (iv x545.2.e5), (iv x545.2.e6), (iv x545.2.e7), (iv ((rdD p0 (rdD p1 (0 : Int) 0) z_Tile).W)), (iv 0)] (fun fb => by kernel_rfl) (by kernel_rfl) (by kernel_rfl) [0, 2] (by decide) (by decide) (fun w599 hS600 => ?_)
 refine ⟨⟨rowR.cell (hS600.rd 1).1 0 h597.1 h597.2 0 rfl, rowR.cell (hS600.rd 0).1 z_Tile h598.1 h598.2 1 rfl, trivial⟩, ?_⟩
 refine seg 20 [] [4, 5, 51, 53] [(4, (pt g451)), (5, (pt g461)), (51, (iv ((rdD p0 (rdD p1 (w64 ((p1.length : Int) - 1)) 0) z_Tile).E))), (53, (.pointer (some ⟨g461, 18, none⟩)))] [] (fun fb => by kernel_rfl) rfl trivial ?_
 refine WL.store hS600 0 rfl [(18, (iv ((rdD p0 (rdD p1 (w64 ((p1.length : Int) - 1)) 0) z_Tile).E)))] #[(.slice A457 (([] : List Int) ++ p1).length c458), (iv x545.1.e0), (iv x545.1.e1), (iv x545.1.e2), (iv x545.1.e3), (iv x545.1.e4), (iv x545.1.e5), (iv x545.1.e6), (iv x545.1.e7), (iv x545.2.e0), (iv x545.2.e1), (iv x545.2.e2), (iv x545.2.e3), (iv x545.2.e4), (iv x545.2.e5), (iv x545.2.e6), (iv x545.2.e7), (iv ((rdD p0 (rdD p1 (0 : Int) 0) z_Tile).W)), (iv ((rdD p0 (rdD p1 (w64 ((p1.length : Int) - 1)) 0) z_Tile).E))] (fun fb => by kernel_rfl) (by kernel_rfl) (by kernel_rfl) [1, 2] (by decide) (by decide) (fun w601 hS602 => ?_)
 refine ⟨trivial, ?_⟩
 refine WL.done rfl ?_
 refine WX.next ?_
 refine WC.seq ?_
 refine WC.region ?_
 refine seg 1 [.v (.slice A457 (([] : List Int) ++ p1).length c458), .v (iv x545.1.e0), .v (iv x545.1.e1), .v (iv x545.1.e2), .v (iv x545.1.e3), .v (iv x545.1.e4), .v (iv x545.1.e5), .v (iv x545.1.e6), .v (iv x545.1.e7), .v (iv x545.2.e0), .v (iv x545.2.e1), .v (iv x545.2.e2), .v (iv x545.2.e3), .v (iv x545.2.e4), .v (iv x545.2.e5), .v (iv x545.2.e6), .v (iv x545.2.e7), .v (iv ((rdD p0 (rdD p1 (0 : Int) 0) z_Tile).W)), .v (iv ((rdD p0 (rdD p1 (w64 ((p1.length : Int) - 1)) 0) z_Tile).E))] [4, 54] [(4, (pt g451)), (54, (.agg #[(.slice A457 (([] : List Int) ++ p1).length c458), (iv x545.1.e0), (iv x545.1.e1), (iv x545.1.e2), (iv x545.1.e3), (iv x545.1.e4), (iv x545.1.e5), (iv x545.1.e6), (iv x545.1.e7), (iv x545.2.e0), (iv x545.2.e1), (iv x545.2.e2), (iv x545.2.e3), (iv x545.2.e4), (iv x545.2.e5), (iv x545.2.e6), (iv x545.2.e7), (iv ((rdD p0 (rdD p1 (0 : Int) 0) z_Tile).W)), (iv ((rdD p0 (rdD p1 (w64 ((p1.length : Int) - 1)) 0) z_Tile).E))]))] [.cell ⟨g461, 0, none⟩ (.slice A457 (([] : List Int) ++ p1).length c458), .cell ⟨g461, 1, none⟩ (iv x545.1.e0), .cell ⟨g461, 2, none⟩ (iv x545.1.e1), .cell ⟨g461, 3, none⟩ (iv x545.1.e2), .cell ⟨g461, 4, none⟩ (iv x545.1.e3), .cell ⟨g461, 5, none⟩ (iv x545.1.e4), .cell ⟨g461, 6, none⟩ (iv x545.1.e5), .cell ⟨g461, 7, none⟩ (iv x545.1.e6), .cell ⟨g461, 8, none⟩ (iv x545.1.e7), .cell ⟨g461, 9, none⟩ (iv x545.2.e0), .cell ⟨g461, 10, none⟩ (iv x545.2.e1), .cell ⟨g461, 11, none⟩ (iv x545.2.e2), .cell ⟨g461, 12, none⟩ (iv x545.2.e3), .cell ⟨g461, 13, none⟩ (iv x545.2.e4), .cell ⟨g461, 14, none⟩ (iv x545.2.e5), .cell ⟨g461, 15, none⟩ (iv x545.2.e6), .cell ⟨g461, 16, none⟩ (iv x545.2.e7), .cell ⟨g461, 17, none⟩ (iv ((rdD p0 (rdD p1 (0 : Int) 0) z_Tile).W)), .cell ⟨g461, 18, none⟩ (iv ((rdD p0 (rdD p1 (w64 ((p1.length : Int) - 1)) 0) z_Tile).E))] (fun fb => by kernel_rfl) rfl ⟨hS602.cell 0 rfl 0 rfl, hS602.cell 0 rfl 1 rfl, hS602.cell 0 rfl 2 rfl, hS602.cell 0 rfl 3 rfl, hS602.cell 0 rfl 4 rfl, hS602.cell 0 rfl 5 rfl, hS602.cell 0 rfl 6 rfl, hS602.cell 0 rfl 7 rfl, hS602.cell 0 rfl 8 rfl, hS602.cell 0 rfl 9 rfl, hS602.cell 0 rfl 10 rfl, hS602.cell 0 rfl 11 rfl, hS602.cell 0 rfl 12 rfl, hS602.cell 0 rfl 13 rfl, hS602.cell 0 rfl 14 rfl, hS602.cell 0 rfl 15 rfl, hS602.cell 0 rfl 16 rfl, hS602.cell 0 rfl 17 rfl, hS602.cell 0 rfl 18 rfl, trivial⟩ ?_
 refine WL.store hS602 1 rfl [(0, (.slice A457 (([] : List Int) ++ p1).length c458)), (1, (iv x545.1.e0)), (2, (iv x545.1.e1)), (3, (iv x545.1.e2)), (4, (iv x545.1.e3)), (5, (iv x545.1.e4)), (6, (iv x545.1.e5)), (7, (iv x545.1.e6)), (8, (iv x545.1.e7)), (9, (iv x545.2.e0)), (10, (iv x545.2.e1)), (11, (iv x545.2.e2)), (12, (iv x545.2.e3)), (13, (iv x545.2.e4)), (14, (iv x545.2.e5)), (15, (iv x545.2.e6)), (16, (iv x545.2.e7)), (17, (iv ((rdD p0 (rdD p1 (0 : Int) 0) z_Tile).W))), (18, (iv ((rdD p0 (rdD p1 (w64 ((p1.length : Int) - 1)) 0) z_Tile).E)))] #[(.slice A457 (([] : List Int) ++ p1).length c458), (iv x545.1.e0), (iv x545.1.e1), (iv x545.1.e2), (iv x545.1.e3), (iv x545.1.e4), (iv x545.1.e5), (iv x545.1.e6), (iv x545.1.e7), (iv x545.2.e0), (iv x545.2.e1), (iv x545.2.e2), (iv x545.2.e3), (iv x545.2.e4), (iv x545.2.e5), (iv x545.2.e6), (iv x545.2.e7), (iv ((rdD p0 (rdD p1 (0 : Int) 0) z_Tile).W)), (iv ((rdD p0 (rdD p1 (w64 ((p1.length : Int) - 1)) 0) z_Tile).E))] (fun fb => by kernel_rfl) (by kernel_rfl) (by kernel_rfl) [0, 2] (by decide) (by decide) (fun w603 hS604 => ?_)
 refine ⟨trivial, ?_⟩
 refine WL.done rfl ?_
 refine WX.next ?_
 refine WC.ret ?_
 injection hf with hf
 subst hf
 exact WX.ret_ [.v (.slice A457 (([] : List Int) ++ p1).length c458), .v (iv x545.1.e0), .v (iv x545.1.e1), .v (iv x545.1.e2), .v (iv x545.1.e3), .v (iv x545.1.e4), .v (iv x545.1.e5), .v (iv x545.1.e6), .v (iv x545.1.e7), .v (iv x545.2.e0), .v (iv x545.2.e1), .v (iv x545.2.e2), .v (iv x545.2.e3), .v (iv x545.2.e4), .v (iv x545.2.e5), .v (iv x545.2.e6), .v (iv x545.2.e7), .v (iv ((rdD p0 (rdD p1 (0 : Int) 0) z_Tile).W)), .v (iv ((rdD p0 (rdD p1 (w64 ((p1.length : Int) - 1)) 0) z_Tile).E))] (.agg #[(.slice A457 (([] : List Int) ++ p1).length c458), (iv x545.1.e0), (iv x545.1.e1), (iv x545.1.e2), (iv x545.1.e3), (iv x545.1.e4), (iv x545.1.e5), (iv x545.1.e6), (iv x545.1.e7), (iv x545.2.e0), (iv x545.2.e1), (iv x545.2.e2), (iv x545.2.e3), (iv x545.2.e4), (iv x545.2.e5), (iv x545.2.e6), (iv x545.2.e7), (iv ((rdD p0 (rdD p1 (0 : Int) 0) z_Tile).W)), (iv ((rdD p0 (rdD p1 (w64 ((p1.length : Int) - 1)) 0) z_Tile).E))]) [.cell ⟨g451, 0, none⟩ (.slice A457 (([] : List Int) ++ p1).length c458), .cell ⟨g451, 1, none⟩ (iv x545.1.e0), .cell ⟨g451, 2, none⟩ (iv x545.1.e1), .cell ⟨g451, 3, none⟩ (iv x545.1.e2), .cell ⟨g451, 4, none⟩ (iv x545.1.e3), .cell ⟨g451, 5, none⟩ (iv x545.1.e4), .cell ⟨g451, 6, none⟩ (iv x545.1.e5), .cell ⟨g451, 7, none⟩ (iv x545.1.e6), .cell ⟨g451, 8, none⟩ (iv x545.1.e7), .cell ⟨g451, 9, none⟩ (iv x545.2.e0), .cell ⟨g451, 10, none⟩ (iv x545.2.e1), .cell ⟨g451, 11, none⟩ (iv x545.2.e2), .cell ⟨g451, 12, none⟩ (iv x545.2.e3), .cell ⟨g451, 13, none⟩ (iv x545.2.e4), .cell ⟨g451, 14, none⟩ (iv x545.2.e5), .cell ⟨g451, 15, none⟩ (iv x545.2.e6), .cell ⟨g451, 16, none⟩ (iv x545.2.e7), .cell ⟨g451, 17, none⟩ (iv ((rdD p0 (rdD p1 (0 : Int) 0) z_Tile).W)), .cell ⟨g451, 18, none⟩ (iv ((rdD p0 (rdD p1 (w64 ((p1.length : Int) - 1)) 0) z_Tile).E))] (fun fb => by kernel_rfl) ⟨hS604.cell 0 rfl 0 rfl, hS604.cell 0 rfl 1 rfl, hS604.cell 0 rfl 2 rfl, hS604.cell 0 rfl 3 rfl, hS604.cell 0 rfl 4 rfl, hS604.cell 0 rfl 5 rfl, hS604.cell 0 rfl 6 rfl, hS604.cell 0 rfl 7 rfl, hS604.cell 0 rfl 8 rfl, hS604.cell 0 rfl 9 rfl, hS604.cell 0 rfl 10 rfl, hS604.cell 0 rfl 11 rfl, hS604.cell 0 rfl 12 rfl, hS604.cell 0 rfl 13 rfl, hS604.cell 0 rfl 14 rfl, hS604.cell 0 rfl 15 rfl, hS604.cell 0 rfl 16 rfl, hS604.cell 0 rfl 17 rfl, hS604.cell 0 rfl 18 rfl, trivial⟩ ⟨_, rfl, A457, c458, rfl, (hS604.sub [2] (by decide)).noR⟩
theorem rows_All_1_calls : ∀ (k : Nat) (p0 : Int) (f0 : Int) (f1 : List Row) (f2 : List Tile) (f3 : List Int) (g_f0 : Nat) (g_f1 : Nat) (A_f1 : Option Addr) (c_f1 : Nat) (H_f1 : Nat → HF) (g_f2 : Nat) (A_f2 : Option Addr) (c_f2 : Nat) (g_f3 : Nat) (A_f3 : Option Addr) (c_f3 : Nat) (g_f4 : Nat) (r : (List Row) × (List Int)) (w : World) (hR0 : RO (fpL [blk g_f1 (.cells #[(.slice A_f1 f1.length c_f1)] 82 (0, 0)), rowO 88 encN_Row A_f1 c_f1 (tag H_f1 f1), poolO [nestO subN_Row H_f1 f1], blk g_f3 (.cells #[(.slice A_f3 f3.length c_f3)] 36 (0, 0)), rowO 3 encInt A_f3 c_f3 f3]) w (blk g_f0 (.cells #[(iv f0)] 3 (0, 0)))) (hR1 : RO (fpL [blk g_f1 (.cells #[(.slice A_f1 f1.length c_f1)] 82 (0, 0)), rowO 88 encN_Row A_f1 c_f1 (tag H_f1 f1), poolO [nestO subN_Row H_f1 f1], blk g_f3 (.cells #[(.slice A_f3 f3.length c_f3)] 36 (0, 0)), rowO 3 encInt A_f3 c_f3 f3]) w (blk g_f2 (.cells #[(.slice A_f2 f2.length c_f2)] 22 (0, 0)))) (hR2 : RO (fpL [blk g_f1 (.cells #[(.slice A_f1 f1.length c_f1)] 82 (0, 0)), rowO 88 encN_Row A_f1 c_f1 (tag H_f1 f1), poolO [nestO subN_Row H_f1 f1], blk g_f3 (.cells #[(.slice A_f3 f3.length c_f3)] 36 (0, 0)), rowO 3 encInt A_f3 c_f3 f3]) w (rowR enc_Tile A_f2 c_f2 f2)) (hR3 : RO (fpL [blk g_f1 (.cells #[(.slice A_f1 f1.length c_f1)] 82 (0, 0)), rowO 88 encN_Row A_f1 c_f1 (tag H_f1 f1), poolO [nestO subN_Row H_f1 f1], blk g_f3 (.cells #[(.slice A_f3 f3.length c_f3)] 36 (0, 0)), rowO 3 encInt A_f3 c_f3 f3]) w (blk g_f4 (.cells #[(.func (.func 82) #[] #[(.pointer (some ⟨g_f0, 0, none⟩)), (.pointer (some ⟨g_f1, 0, none⟩)), (.pointer (some ⟨g_f2, 0, none⟩)), (.pointer (some ⟨g_f3, 0, none⟩)), (.pointer (some ⟨g_f4, 0, none⟩))])] 115 (0, 0)))) (hI : IoOK w [blk g_f1 (.cells #[(.slice A_f1 f1.length c_f1)] 82 (0, 0)), rowO 88 encN_Row A_f1 c_f1 (tag H_f1 f1), poolO [nestO subN_Row H_f1 f1], blk g_f3 (.cells #[(.slice A_f3 f3.length c_f3)] 36 (0, 0)), rowO 3 encInt A_f3 c_f3 f3]) (hf : rows_All_1 k p0 f0 f1 f2 f3 = some r),
  CallsR Try.prog 82 #[(iv p0), (.pointer (some ⟨g_f0, 0, none⟩)), (.pointer (some ⟨g_f1, 0, none⟩)), (.pointer (some ⟨g_f2, 0, none⟩)), (.pointer (some ⟨g_f3, 0, none⟩)), (.pointer (some ⟨g_f4, 0, none⟩))] w (fun v w' => ∃ (A1_ : Option Addr), ∃ (c1_ : Nat), ∃ (h1_ : Nat → HF), ∃ (A2_ : Option Addr), ∃ (c2_ : Nat), v = (.tuple #[]) ∧ St (fpL [blk g_f1 (.cells #[(.slice A_f1 f1.length c_f1)] 82 (0, 0)), rowO 88 encN_Row A_f1 c_f1 (tag H_f1 f1), poolO [nestO subN_Row H_f1 f1], blk g_f3 (.cells #[(.slice A_f3 f3.length c_f3)] 36 (0, 0)), rowO 3 encInt A_f3 c_f3 f3]) w w' [] [blk g_f1 (.cells #[(.slice A1_ r.1.length c1_)] 82 (0, 0)), rowO 88 encN_Row A1_ c1_ (tag h1_ r.1), poolO [nestO subN_Row h1_ r.1], blk g_f3 (.cells #[(.slice A2_ r.2.length c2_)] 36 (0, 0)), rowO 3 encInt A2_ c2_ r.2]) := by
 intro k
 induction k with
 | zero => intro p0 f0 f1 f2 f3 g_f0 g_f1 A_f1 c_f1 H_f1 g_f2 A_f2 c_f2 g_f3 A_f3 c_f3 g_f4 r w hR0 hR1 hR2 hR3 hI hf; rw [rows_All_1] at hf; cases hf
 | succ k ih_ =>
 intro p0 f0 f1 f2 f3 g_f0 g_f1 A_f1 c_f1 H_f1 g_f2 A_f2 c_f2 g_f3 A_f3 c_f3 g_f4 r w hR0 hR1 hR2 hR3 hI hf
 have hS : St (fpL [blk g_f1 (.cells #[(.slice A_f1 f1.length c_f1)] 82 (0, 0)), rowO 88 encN_Row A_f1 c_f1 (tag H_f1 f1), poolO [nestO subN_Row H_f1 f1], blk g_f3 (.cells #[(.slice A_f3 f3.length c_f3)] 36 (0, 0)), rowO 3 encInt A_f3 c_f3 f3]) w w [blk g_f0 (.cells #[(iv f0)] 3 (0, 0)), blk g_f2 (.cells #[(.slice A_f2 f2.length c_f2)] 22 (0, 0)), rowR enc_Tile A_f2 c_f2 f2, blk g_f4 (.cells #[(.func (.func 82) #[] #[(.pointer (some ⟨g_f0, 0, none⟩)), (.pointer (some ⟨g_f1, 0, none⟩)), (.pointer (some ⟨g_f2, 0, none⟩)), (.pointer (some ⟨g_f3, 0, none⟩)), (.pointer (some ⟨g_f4, 0, none⟩))])] 115 (0, 0))] [blk g_f1 (.cells #[(.slice A_f1 f1.length c_f1)] 82 (0, 0)), rowO 88 encN_Row A_f1 c_f1 (tag H_f1 f1), poolO [nestO subN_Row H_f1 f1], blk g_f3 (.cells #[(.slice A_f3 f3.length c_f3)] 36 (0, 0)), rowO 3 encInt A_f3 c_f3 f3] := St.initIO (ro_cons hR0 (ro_cons hR1 (ro_cons hR2 (ro_cons hR3 (ro_nil _ _))))) hI
 rw [rows_All_1] at hf
 generalize rows_All_1 k = rc_ at hf ih_
 refine enter 50 Try.func82 rfl Try.ntmps82 rfl ?_
 refine WC.seq ?_
 refine WC.seq ?_
 refine WC.region ?_
 refine seg 3 [.v (iv f0)] [0, 2, 3, 4, 5, 11] [(0, (iv p0)), (2, (.pointer (some ⟨g_f1, 0, none⟩))), (3, (.pointer (some ⟨g_f2, 0, none⟩))), (4, (.pointer (some ⟨g_f3, 0, none⟩))), (5, (.pointer (some ⟨g_f4, 0, none⟩))), (11, (.bool (p0 == f0)))] [.cell ⟨g_f0, 0, none⟩ (iv f0)] (fun fb => by kernel_rfl) rfl ⟨blk_cell (hS.rd 0).1 0 rfl, trivial⟩ ?_
 refine WL.done rfl ?_
 refine WX.next ?_
 rcases br_some hf with ⟨h784, hf⟩ | ⟨h784, hf⟩
 ·refine WC.condT2 (fun fb => by kernel_rfl) h784 ?_
  refine WC.seq ?_
  refine WC.regionD ([(0, ⟨g_f1, 0, none⟩, (.slice A_f1 f1.length c_f1)), (1, ⟨g_f2, 0, none⟩, (.slice A_f2 f2.length c_f2)), (2, ⟨g_f3, 0, none⟩, (.slice A_f3 f3.length c_f3))], [0, 1, 2], [[], [], [], [1, 2], [1, 2, 3], [0, 1, 2, 3, 4], [0, 1, 2, 3, 4, 5]]) [[0, 1, 2, 3, 4, 5, 6]] (by kernel_rfl) (by kernel_rfl) (NoPanic.seq (NoPanic.seq (NoPanic.body))) ?_
  have hS806 := hS.drew
  revert hS806
  generalize World.drew w = w805
  intro hS806
  refine ⟨⟨hS806.cell 0 rfl 0 rfl, blk_cell (hS806.rd 1).1 0 rfl, hS806.cell 3 rfl 0 rfl, trivial⟩, forallC ?_ (forallN)⟩
  refine segF 3 [.v (.slice A_f1 f1.length c_f1), .v (.slice A_f2 f2.length c_f2), .v (.slice A_f3 f3.length c_f3)] [2, 4, 12, 13, 14] [(2, (.pointer (some ⟨g_f1, 0, none⟩))), (4, (.pointer (some ⟨g_f3, 0, none⟩))), (12, (.slice A_f1 f1.length c_f1)), (13, (.slice A_f2 f2.length c_f2)), (14, (.slice A_f3 f3.length c_f3))] [] [0, 1, 2] [(0, ⟨g_f1, 0, none⟩, (.slice A_f1 f1.length c_f1)), (1, ⟨g_f2, 0, none⟩, (.slice A_f2 f2.length c_f2)), (2, ⟨g_f3, 0, none⟩, (.slice A_f3 f3.length c_f3))] (fun fb => by kernel_rfl) rfl trivial rfl ?_
  obtain ⟨t807, ht808, hf⟩ := bind_some hf
  refine WL.call (some 15) 83 #[(.slice A_f2 f2.length c_f2), (.slice A_f3 f3.length c_f3)] (fun fb => by kernel_rfl) (rows_rowOf_calls _ f2 f3 A_f2 c_f2 A_f3 c_f3 t807 _ (hS806.rd 2) (hS806.ow 4).ofO ht808) (fun v w809 hR810 => ?_)
  obtain ⟨A812, c813, rfl, hk_⟩ := hR810
  have hS811 : St (fpL [blk g_f1 (.cells #[(.slice A_f1 f1.length c_f1)] 82 (0, 0)), rowO 88 encN_Row A_f1 c_f1 (tag H_f1 f1), poolO [nestO subN_Row H_f1 f1], blk g_f3 (.cells #[(.slice A_f3 f3.length c_f3)] 36 (0, 0)), rowO 3 encInt A_f3 c_f3 f3]) w w809 [blk g_f0 (.cells #[(iv f0)] 3 (0, 0)), blk g_f2 (.cells #[(.slice A_f2 f2.length c_f2)] 22 (0, 0)), rowR enc_Tile A_f2 c_f2 f2, blk g_f4 (.cells #[(.func (.func 82) #[] #[(.pointer (some ⟨g_f0, 0, none⟩)), (.pointer (some ⟨g_f1, 0, none⟩)), (.pointer (some ⟨g_f2, 0, none⟩)), (.pointer (some ⟨g_f3, 0, none⟩)), (.pointer (some ⟨g_f4, 0, none⟩))])] 115 (0, 0))] [rowO 3 encInt A812 c813 t807.Cells, blk g_f1 (.cells #[(.slice A_f1 f1.length c_f1)] 82 (0, 0)), rowO 88 encN_Row A_f1 c_f1 (tag H_f1 f1), poolO [nestO subN_Row H_f1 f1], blk g_f3 (.cells #[(.slice A_f3 f3.length c_f3)] 36 (0, 0)), rowO 3 encInt A_f3 c_f3 f3] := hS806.call hk_ [] [0, 1, 2, 3, 4] (fun g hg => hg.elim) (by simp) (by decide)
  refine ⟨⟨hS811.cell 1 rfl 0 rfl, trivial⟩, ?_⟩
  refine WL.new hS811 16 [] (fun g => (.slice (some ⟨g, 0, none⟩) 1 1)) (.cells #[(.slice A812 t807.Cells.length c813), (iv t807.South.e0), (iv t807.South.e1), (iv t807.South.e2), (iv t807.South.e3), (iv t807.South.e4), (iv t807.South.e5), (iv t807.South.e6), (iv t807.South.e7), (iv t807.North.e0), (iv t807.North.e1), (iv t807.North.e2), (iv t807.North.e3), (iv t807.North.e4), (iv t807.North.e5), (iv t807.North.e6), (iv t807.North.e7), (iv t807.West), (iv t807.East)] 88 (0, 0)) [] (fun fb g => by kernel_rfl) trivial (fun g814 w815 hS816 => ?_)
  refine ⟨⟨hS816.cell 2 rfl 0 rfl, trivial⟩, ?_⟩
  have hS818 : St (fpL [blk g_f1 (.cells #[(.slice A_f1 f1.length c_f1)] 82 (0, 0)), rowO 88 encN_Row A_f1 c_f1 (tag H_f1 f1), poolO [nestO subN_Row H_f1 f1], blk g_f3 (.cells #[(.slice A_f3 f3.length c_f3)] 36 (0, 0)), rowO 3 encInt A_f3 c_f3 f3]) w w815 [blk g_f0 (.cells #[(iv f0)] 3 (0, 0)), blk g_f2 (.cells #[(.slice A_f2 f2.length c_f2)] 22 (0, 0)), rowR enc_Tile A_f2 c_f2 f2, blk g_f4 (.cells #[(.func (.func 82) #[] #[(.pointer (some ⟨g_f0, 0, none⟩)), (.pointer (some ⟨g_f1, 0, none⟩)), (.pointer (some ⟨g_f2, 0, none⟩)), (.pointer (some ⟨g_f3, 0, none⟩)), (.pointer (some ⟨g_f4, 0, none⟩))])] 115 (0, 0))] [rowO 88 encN_Row (some ⟨g814, 0, none⟩) 1 [((hd1 A812 c813), t807)], rowO 3 encInt A812 c813 t807.Cells, blk g_f1 (.cells #[(.slice A_f1 f1.length c_f1)] 82 (0, 0)), rowO 88 encN_Row A_f1 c_f1 (tag H_f1 f1), poolO [nestO subN_Row H_f1 f1], blk g_f3 (.cells #[(.slice A_f3 f3.length c_f3)] 36 (0, 0)), rowO 3 encInt A_f3 c_f3 f3] := hS816.map1 0 _ (fun h => rowO.ofBlk h rfl (Nat.le_of_ble_eq_true (by kernel_rfl))) (fun _ h => by obtain ⟨_, h1, h2⟩ := h; injection h1 with h1; subst h1; exact h2) [1, 2, 3, 4, 5, 6] (by decide) (by decide)
  obtain ⟨h819, hf⟩ := as_some hf
  refine WL.appendN hS818 3 (d := 17) (tS := 82) (z := (.agg #[(.slice none 0 0), (iv 0), (iv 0), (iv 0), (iv 0), (iv 0), (iv 0), (iv 0), (iv 0), (iv 0), (iv 0), (iv 0), (iv 0), (iv 0), (iv 0), (iv 0), (iv 0), (iv 0), (iv 0)])) (bytes := 168) (c2 := 1) (hx := (hd1 A812 c813)) (x := t807) rfl (fun fb => by kernel_rfl) (rowO.rd (hS818.own 0).1) (by kernel_rfl) (by kernel_rfl) rfl (by decide) h819 (by decide) [0, 1, 2, 4, 5, 6] (by decide) (by decide) (fun A820 c821 w822 hS823 => ?_)
  have hS824 : St (fpL [blk g_f1 (.cells #[(.slice A_f1 f1.length c_f1)] 82 (0, 0)), rowO 88 encN_Row A_f1 c_f1 (tag H_f1 f1), poolO [nestO subN_Row H_f1 f1], blk g_f3 (.cells #[(.slice A_f3 f3.length c_f3)] 36 (0, 0)), rowO 3 encInt A_f3 c_f3 f3]) w w822 [blk g_f0 (.cells #[(iv f0)] 3 (0, 0)), blk g_f2 (.cells #[(.slice A_f2 f2.length c_f2)] 22 (0, 0)), rowR enc_Tile A_f2 c_f2 f2, blk g_f4 (.cells #[(.func (.func 82) #[] #[(.pointer (some ⟨g_f0, 0, none⟩)), (.pointer (some ⟨g_f1, 0, none⟩)), (.pointer (some ⟨g_f2, 0, none⟩)), (.pointer (some ⟨g_f3, 0, none⟩)), (.pointer (some ⟨g_f4, 0, none⟩))])] 115 (0, 0))] [poolO [nestO subN_Row (updH H_f1 f1.length (hd1 A812 c813)) (f1 ++ [t807])], rowO 88 encN_Row A820 c821 (tag (updH H_f1 f1.length (hd1 A812 c813)) (f1 ++ [t807])), rowO 88 encN_Row (some ⟨g814, 0, none⟩) 1 [((hd1 A812 c813), t807)], blk g_f1 (.cells #[(.slice A_f1 f1.length c_f1)] 82 (0, 0)), blk g_f3 (.cells #[(.slice A_f3 f3.length c_f3)] 36 (0, 0)), rowO 3 encInt A_f3 c_f3 f3] := hS823.poolPush 4 rfl 0 (by simp) rfl (hd1 A812 c813) t807 (hS823.ow 2).ofO [2] (fun g hg => ⟨2, by simp, rowO.fpR (hS823.own 2).1 g hg⟩) _ rfl [0, 1, 3, 5, 6] (by decide) (by decide)
  refine ⟨trivial, ?_⟩
  refine WL.store hS824 3 rfl [(0, (.slice A820 (f1 ++ [t807]).length c821))] #[(.slice A820 (f1 ++ [t807]).length c821)] (fun fb => by kernel_rfl) (by kernel_rfl) rfl [0, 1, 2, 4, 5] (by decide) (by decide) (fun w825 hS826 => ?_)
  refine ⟨trivial, ?_⟩
  refine WL.done rfl ?_
  refine WX.next ?_
  refine WC.ret ?_
  injection hf with hf
  subst hf
  exact WX.thenR (WX.ret_ [] (.tuple #[]) [] (fun fb => by kernel_rfl) trivial ⟨_, rfl, A820, c821, (updH H_f1 f1.length (hd1 A812 c813)), A_f3, c_f3, rfl, (hS826.sub [0, 2, 1, 4, 5] (by decide)).noR⟩)
 refine WC.condF2 (fun fb => by kernel_rfl) h784 ?_
 refine WC.skip ?_
 refine WX.next ?_
 refine WC.seq ?_
 refine WC.region ?_
 refine seg 3 [.v (.slice A_f2 f2.length c_f2)] [0, 2, 3, 4, 5, 18, 19, 20] [(0, (iv p0)), (2, (.pointer (some ⟨g_f1, 0, none⟩))), (3, (.pointer (some ⟨g_f2, 0, none⟩))), (4, (.pointer (some ⟨g_f3, 0, none⟩))), (5, (.pointer (some ⟨g_f4, 0, none⟩))), (18, (.slice A_f2 f2.length c_f2)), (19, (iv (f2.length : Int))), (20, (iv 0))] [.cell ⟨g_f2, 0, none⟩ (.slice A_f2 f2.length c_f2)] (fun fb => by kernel_rfl) rfl ⟨blk_cell (hS.rd 1).1 0 rfl, trivial⟩ ?_
 refine WL.done rfl ?_
 refine WX.next ?_
 obtain ⟨x1010, hx1011, hf⟩ := bind_some hf
 refine WC.cutN (T := ((List Row) × (List Int)) × (Option Addr) × Nat × (Nat → HF) × (Option Addr) × Nat) (fun t => [(2, (.pointer (some ⟨g_f1, 0, none⟩))), (4, (.pointer (some ⟨g_f3, 0, none⟩)))]) (fun t w1 => St (fpL [blk g_f1 (.cells #[(.slice A_f1 f1.length c_f1)] 82 (0, 0)), rowO 88 encN_Row A_f1 c_f1 (tag H_f1 f1), poolO [nestO subN_Row H_f1 f1], blk g_f3 (.cells #[(.slice A_f3 f3.length c_f3)] 36 (0, 0)), rowO 3 encInt A_f3 c_f3 f3]) w w1 [blk g_f0 (.cells #[(iv f0)] 3 (0, 0)), blk g_f2 (.cells #[(.slice A_f2 f2.length c_f2)] 22 (0, 0)), rowR enc_Tile A_f2 c_f2 f2, blk g_f4 (.cells #[(.func (.func 82) #[] #[(.pointer (some ⟨g_f0, 0, none⟩)), (.pointer (some ⟨g_f1, 0, none⟩)), (.pointer (some ⟨g_f2, 0, none⟩)), (.pointer (some ⟨g_f3, 0, none⟩)), (.pointer (some ⟨g_f4, 0, none⟩))])] 115 (0, 0))] [blk g_f1 (.cells #[(.slice t.2.1 t.1.1.length t.2.2.1)] 82 (0, 0)), rowO 88 encN_Row t.2.1 t.2.2.1 (tag t.2.2.2.1 t.1.1), poolO [nestO subN_Row t.2.2.2.1 t.1.1], blk g_f3 (.cells #[(.slice t.2.2.2.2.1 t.1.2.length t.2.2.2.2.2)] 36 (0, 0)), rowO 3 encInt t.2.2.2.2.1 t.2.2.2.2.2 t.1.2] ∧ x1010 = t.1) (fun Kx1010 => ?_) ?_
 ·
  refine WC.block ?_
  refine WC.loop (T := ((List Row) × (List Int) × Int) × (Option Addr) × Nat × (Nat → HF) × (Option Addr) × Nat) (fun t => [(0, (iv p0)), (2, (.pointer (some ⟨g_f1, 0, none⟩))), (3, (.pointer (some ⟨g_f2, 0, none⟩))), (4, (.pointer (some ⟨g_f3, 0, none⟩))), (5, (.pointer (some ⟨g_f4, 0, none⟩))), (18, (.slice A_f2 f2.length c_f2)), (19, (iv (f2.length : Int))), (20, (iv t.1.2.2))]) (fun n t w1 => St (fpL [blk g_f1 (.cells #[(.slice A_f1 f1.length c_f1)] 82 (0, 0)), rowO 88 encN_Row A_f1 c_f1 (tag H_f1 f1), poolO [nestO subN_Row H_f1 f1], blk g_f3 (.cells #[(.slice A_f3 f3.length c_f3)] 36 (0, 0)), rowO 3 encInt A_f3 c_f3 f3]) w w1 [blk g_f0 (.cells #[(iv f0)] 3 (0, 0)), blk g_f2 (.cells #[(.slice A_f2 f2.length c_f2)] 22 (0, 0)), rowR enc_Tile A_f2 c_f2 f2, blk g_f4 (.cells #[(.func (.func 82) #[] #[(.pointer (some ⟨g_f0, 0, none⟩)), (.pointer (some ⟨g_f1, 0, none⟩)), (.pointer (some ⟨g_f2, 0, none⟩)), (.pointer (some ⟨g_f3, 0, none⟩)), (.pointer (some ⟨g_f4, 0, none⟩))])] 115 (0, 0))] [blk g_f1 (.cells #[(.slice t.2.1 t.1.1.length t.2.2.1)] 82 (0, 0)), rowO 88 encN_Row t.2.1 t.2.2.1 (tag t.2.2.2.1 t.1.1), poolO [nestO subN_Row t.2.2.2.1 t.1.1], blk g_f3 (.cells #[(.slice t.2.2.2.2.1 t.1.2.1.length t.2.2.2.2.2)] 36 (0, 0)), rowO 3 encInt t.2.2.2.2.1 t.2.2.2.2.2 t.1.2.1] ∧ rows_All_1.l0 n t.1.1 t.1.2.1 t.1.2.2 p0 f0 f2 rc_ = some x1010) k ((f1, f3, 0), A_f1, c_f1, H_f1, A_f3, c_f3) [0, 2, 3, 4, 5, 18, 19, 20] rfl ⟨(hS.subR [0, 1, 2, 3]).sub [0, 1, 2, 3, 4] (by decide), hx1011⟩ ?_
  rintro k1012 ⟨⟨l997, l1001, x1002⟩, A995, c996, H998, A999, c1000⟩ w1013 ⟨hS1014, hl1015⟩
  cases k1012 with
  | zero => rw [rows_All_1.l0] at hl1015; cases hl1015
  | succ k1012 =>
   rw [rows_All_1.l0] at hl1015
   refine WC.seq ?_
   refine WC.region ?_
   refine seg 1 [] [0, 2, 3, 4, 5, 18, 19, 20, 21] [(0, (iv p0)), (2, (.pointer (some ⟨g_f1, 0, none⟩))), (3, (.pointer (some ⟨g_f2, 0, none⟩))), (4, (.pointer (some ⟨g_f3, 0, none⟩))), (5, (.pointer (some ⟨g_f4, 0, none⟩))), (18, (.slice A_f2 f2.length c_f2)), (19, (iv (f2.length : Int))), (20, (iv x1002)), (21, (.bool (decide (x1002 < (f2.length : Int)))))] [] (fun fb => by kernel_rfl) rfl trivial ?_
   refine WL.done rfl ?_
   refine WX.next ?_
   refine WC.seq ?_
   rcases br_some hl1015 with ⟨h1016, hl1015⟩ | ⟨h1016, hl1015⟩
   ·refine WC.condT2 (fun fb => by kernel_rfl) h1016 ?_
    refine WC.skip ?_
    refine WX.next ?_
    refine WC.seq ?_
    refine WC.block ?_
    refine WC.seq ?_
    refine WC.region ?_
    refine seg 1 [] [0, 2, 3, 4, 5, 18, 19, 20, 22] [(0, (iv p0)), (2, (.pointer (some ⟨g_f1, 0, none⟩))), (3, (.pointer (some ⟨g_f2, 0, none⟩))), (4, (.pointer (some ⟨g_f3, 0, none⟩))), (5, (.pointer (some ⟨g_f4, 0, none⟩))), (18, (.slice A_f2 f2.length c_f2)), (19, (iv (f2.length : Int))), (20, (iv x1002)), (22, (iv x1002))] [] (fun fb => by kernel_rfl) rfl trivial ?_
    obtain ⟨h1017, hl1015⟩ := as_some hl1015
    refine seg 3 [.v (iv ((rdD f2 x1002 z_Tile).N)), .v (iv ((rdD f2 x1002 z_Tile).E)), .v (iv ((rdD f2 x1002 z_Tile).S)), .v (iv ((rdD f2 x1002 z_Tile).W))] [0, 2, 3, 4, 5, 18, 19, 20, 22, 24] [(0, (iv p0)), (2, (.pointer (some ⟨g_f1, 0, none⟩))), (3, (.pointer (some ⟨g_f2, 0, none⟩))), (4, (.pointer (some ⟨g_f3, 0, none⟩))), (5, (.pointer (some ⟨g_f4, 0, none⟩))), (18, (.slice A_f2 f2.length c_f2)), (19, (iv (f2.length : Int))), (20, (iv x1002)), (22, (iv x1002)), (24, (.agg #[(iv ((rdD f2 x1002 z_Tile).N)), (iv ((rdD f2 x1002 z_Tile).E)), (iv ((rdD f2 x1002 z_Tile).S)), (iv ((rdD f2 x1002 z_Tile).W))]))] [.idx A_f2 x1002 f2.length, .cell ((adr A_f2).add ((x1002).toNat * 4)) (iv ((rdD f2 x1002 z_Tile).N)), .cell (((adr A_f2).add ((x1002).toNat * 4)).add 1) (iv ((rdD f2 x1002 z_Tile).E)), .cell (((adr A_f2).add ((x1002).toNat * 4)).add 2) (iv ((rdD f2 x1002 z_Tile).S)), .cell (((adr A_f2).add ((x1002).toNat * 4)).add 3) (iv ((rdD f2 x1002 z_Tile).W))] (fun fb => by kernel_rfl) rfl ⟨rowR.adr (hS1014.rd 2).1 h1017.1 h1017.2, rowR.cell (hS1014.rd 2).1 z_Tile h1017.1 h1017.2 0 rfl, rowR.cell (hS1014.rd 2).1 z_Tile h1017.1 h1017.2 1 rfl, rowR.cell (hS1014.rd 2).1 z_Tile h1017.1 h1017.2 2 rfl, rowR.cell (hS1014.rd 2).1 z_Tile h1017.1 h1017.2 3 rfl, trivial⟩ ?_
    refine WL.new hS1014 8 [] (fun g => (.pointer (some ⟨g, 0, none⟩))) (.cells #[(iv 0), (iv 0), (iv 0), (iv 0)] 24 (0, 0)) [] (fun fb g => by kernel_rfl) trivial (fun g1018 w1019 hS1020 => ?_)
    refine ⟨trivial, ?_⟩
    refine seg 5 [] [0, 2, 3, 4, 5, 7, 8, 18, 19, 20, 24] [(0, (iv p0)), (2, (.pointer (some ⟨g_f1, 0, none⟩))), (3, (.pointer (some ⟨g_f2, 0, none⟩))), (4, (.pointer (some ⟨g_f3, 0, none⟩))), (5, (.pointer (some ⟨g_f4, 0, none⟩))), (7, (iv x1002)), (8, (pt g1018)), (18, (.slice A_f2 f2.length c_f2)), (19, (iv (f2.length : Int))), (20, (iv x1002)), (24, (.agg #[(iv ((rdD f2 x1002 z_Tile).N)), (iv ((rdD f2 x1002 z_Tile).E)), (iv ((rdD f2 x1002 z_Tile).S)), (iv ((rdD f2 x1002 z_Tile).W))]))] [] (fun fb => by kernel_rfl) rfl trivial ?_
    refine WL.store hS1020 0 rfl [(0, (iv ((rdD f2 x1002 z_Tile).N))), (1, (iv ((rdD f2 x1002 z_Tile).E))), (2, (iv ((rdD f2 x1002 z_Tile).S))), (3, (iv ((rdD f2 x1002 z_Tile).W)))] #[(iv ((rdD f2 x1002 z_Tile).N)), (iv ((rdD f2 x1002 z_Tile).E)), (iv ((rdD f2 x1002 z_Tile).S)), (iv ((rdD f2 x1002 z_Tile).W))] (fun fb => by kernel_rfl) (by kernel_rfl) rfl [1, 2, 3, 4, 5] (by decide) (by decide) (fun w1022 hS1023 => ?_)
    refine ⟨trivial, ?_⟩
    refine WL.done rfl ?_
    refine WX.next ?_
    refine WC.seq ?_
    obtain ⟨x1036, hx1037, hl1015⟩ := bind_some hl1015
    refine WC.cutN (T := Bool) (fun t => [(0, (iv p0)), (2, (.pointer (some ⟨g_f1, 0, none⟩))), (3, (.pointer (some ⟨g_f2, 0, none⟩))), (4, (.pointer (some ⟨g_f3, 0, none⟩))), (5, (.pointer (some ⟨g_f4, 0, none⟩))), (7, (iv x1002)), (18, (.slice A_f2 f2.length c_f2)), (19, (iv (f2.length : Int))), (20, (iv x1002)), (40, (.bool t))]) (fun t w1 => St (fpL [blk g_f1 (.cells #[(.slice A_f1 f1.length c_f1)] 82 (0, 0)), rowO 88 encN_Row A_f1 c_f1 (tag H_f1 f1), poolO [nestO subN_Row H_f1 f1], blk g_f3 (.cells #[(.slice A_f3 f3.length c_f3)] 36 (0, 0)), rowO 3 encInt A_f3 c_f3 f3]) w w1 [blk g_f0 (.cells #[(iv f0)] 3 (0, 0)), blk g_f2 (.cells #[(.slice A_f2 f2.length c_f2)] 22 (0, 0)), rowR enc_Tile A_f2 c_f2 f2, blk g_f4 (.cells #[(.func (.func 82) #[] #[(.pointer (some ⟨g_f0, 0, none⟩)), (.pointer (some ⟨g_f1, 0, none⟩)), (.pointer (some ⟨g_f2, 0, none⟩)), (.pointer (some ⟨g_f3, 0, none⟩)), (.pointer (some ⟨g_f4, 0, none⟩))])] 115 (0, 0))] [blk g_f1 (.cells #[(.slice A995 l997.length c996)] 82 (0, 0)), rowO 88 encN_Row A995 c996 (tag H998 l997), poolO [nestO subN_Row H998 l997], blk g_f3 (.cells #[(.slice A999 l1001.length c1000)] 36 (0, 0)), rowO 3 encInt A999 c1000 l1001] ∧ x1036 = t) (fun Kx1036 => ?_) ?_
    ·
     rcases br_some hx1037 with ⟨h1038, hx1037⟩ | ⟨h1038, hx1037⟩
     ·
      refine WC.regionD ([], [0, 1, 2, 3, 4, 5, 6, 7, 8, 9, 10, 11, 12, 13, 14, 15], [[], [0], [0, 1], [0, 1, 2], [0, 1, 2], [0, 1, 2], [0, 1, 2, 5], [0, 1, 2, 4, 5, 6], [0, 1, 2, 4, 5, 6, 7], [0, 1, 2, 3, 4, 5, 6, 7, 8], [0, 1, 2, 3, 4, 5, 6, 7, 8, 9], [0, 1, 2, 3, 4, 5, 6, 7, 8, 9, 10], [0, 1, 2], [0, 1, 2, 12], [0, 1, 2, 3, 4, 5, 6, 7, 8, 9, 10, 11, 12, 13], [0, 1, 2, 3, 4, 5, 6, 7, 8, 9, 10, 11, 12, 13, 14]]) [[0, 1, 2, 3, 4, 5, 6, 7, 8, 9, 10, 11, 12, 13, 14, 15]] (by kernel_rfl) (by kernel_rfl) (NoPanic.seq (NoPanic.block (NoPanic.seq (NoPanic.seq (NoPanic.block (NoPanic.body)))))) ?_
      have hS1040 := hS1023.drew
      revert hS1040
      generalize World.drew w1022 = w1039
      intro hS1040
      refine ⟨trivial, forallC ?_ (forallN)⟩
      refine seg 3 [] [0, 2, 3, 4, 5, 7, 8, 18, 19, 20, 27] [(0, (iv p0)), (2, (.pointer (some ⟨g_f1, 0, none⟩))), (3, (.pointer (some ⟨g_f2, 0, none⟩))), (4, (.pointer (some ⟨g_f3, 0, none⟩))), (5, (.pointer (some ⟨g_f4, 0, none⟩))), (7, (iv x1002)), (8, (pt g1018)), (18, (.slice A_f2 f2.length c_f2)), (19, (iv (f2.length : Int))), (20, (iv x1002)), (27, (.bool (p0 == 0)))] [] (fun fb => by kernel_rfl) rfl trivial ?_
      refine WL.setB 27 h1038 rfl ?_
      refine seg 16 [] [0, 2, 3, 4, 5, 7, 18, 19, 20, 40] [(0, (iv p0)), (2, (.pointer (some ⟨g_f1, 0, none⟩))), (3, (.pointer (some ⟨g_f2, 0, none⟩))), (4, (.pointer (some ⟨g_f3, 0, none⟩))), (5, (.pointer (some ⟨g_f4, 0, none⟩))), (7, (iv x1002)), (18, (.slice A_f2 f2.length c_f2)), (19, (iv (f2.length : Int))), (20, (iv x1002)), (40, (.bool true))] [] (fun fb => by kernel_rfl) rfl trivial ?_
      refine WL.done rfl ?_
      injection hx1037 with hx1037
      exact WX.to Kx1036 true [0, 2, 3, 4, 5, 7, 18, 19, 20, 40] rfl ⟨(hS1040.subR [0, 1, 2, 3]).sub [1, 2, 3, 4, 5] (by decide), hx1037.symm⟩
     obtain ⟨h1047, hx1037⟩ := as_some hx1037
     obtain ⟨h1048, hx1037⟩ := as_some hx1037
     refine WC.regionD ([(3, ⟨g_f2, 0, none⟩, (.slice A_f2 f2.length c_f2)), (4, ⟨g_f3, 0, none⟩, (.slice A999 l1001.length c1000)), (8, ((adr A999).add ((w64 (p0 - 1)).toNat * 1)), (iv (rdD l1001 (w64 (p0 - 1)) 0))), (11, (((adr A_f2).add (((rdD l1001 (w64 (p0 - 1)) 0)).toNat * 4)).add 1), (iv ((rdD f2 (rdD l1001 (w64 (p0 - 1)) 0) z_Tile).E))), (13, ⟨g1018, 3, none⟩, (iv ((rdD f2 x1002 z_Tile).W)))], [0, 1, 2, 3, 4, 5, 6, 7, 8, 9, 10, 11, 12, 13, 14, 15], [[], [0], [0, 1], [0, 1, 2], [0, 1, 2], [0, 1, 2], [0, 1, 2, 5], [0, 1, 2, 4, 5, 6], [0, 1, 2, 4, 5, 6, 7], [0, 1, 2, 3, 4, 5, 6, 7, 8], [0, 1, 2, 3, 4, 5, 6, 7, 8, 9], [0, 1, 2, 3, 4, 5, 6, 7, 8, 9, 10], [0, 1, 2], [0, 1, 2, 12], [0, 1, 2, 3, 4, 5, 6, 7, 8, 9, 10, 11, 12, 13], [0, 1, 2, 3, 4, 5, 6, 7, 8, 9, 10, 11, 12, 13, 14]]) [[0, 1, 2, 3, 4, 5, 6, 7, 8, 9, 10, 11, 12, 13, 14, 15]] (by kernel_rfl) (by kernel_rfl) (NoPanic.seq (NoPanic.block (NoPanic.seq (NoPanic.seq (NoPanic.block (NoPanic.body)))))) ?_
     have hS1044 := hS1023.drew
     revert hS1044
     generalize World.drew w1022 = w1043
     intro hS1044
     refine ⟨⟨blk_cell (hS1044.rd 1).1 0 rfl, hS1044.cell 4 rfl 0 rfl, rowR.cell (rowO.rd (hS1044.own 5).1) 0 h1047.1 h1047.2 0 rfl, rowR.cell (hS1044.rd 2).1 z_Tile h1048.1 h1048.2 1 rfl, hS1044.cell 0 rfl 3 rfl, trivial⟩, forallC ?_ (forallN)⟩
     refine seg 3 [] [0, 2, 3, 4, 5, 7, 8, 18, 19, 20, 27] [(0, (iv p0)), (2, (.pointer (some ⟨g_f1, 0, none⟩))), (3, (.pointer (some ⟨g_f2, 0, none⟩))), (4, (.pointer (some ⟨g_f3, 0, none⟩))), (5, (.pointer (some ⟨g_f4, 0, none⟩))), (7, (iv x1002)), (8, (pt g1018)), (18, (.slice A_f2 f2.length c_f2)), (19, (iv (f2.length : Int))), (20, (iv x1002)), (27, (.bool (p0 == 0)))] [] (fun fb => by kernel_rfl) rfl trivial ?_
     refine WL.setB 27 h1038 rfl ?_
     refine segF 16 [.v (.slice A_f2 f2.length c_f2), .v (.slice A999 l1001.length c1000), .v (iv (rdD l1001 (w64 (p0 - 1)) 0)), .v (iv ((rdD f2 (rdD l1001 (w64 (p0 - 1)) 0) z_Tile).E)), .v (iv ((rdD f2 x1002 z_Tile).W))] [0, 2, 3, 4, 5, 7, 18, 19, 20, 40] [(0, (iv p0)), (2, (.pointer (some ⟨g_f1, 0, none⟩))), (3, (.pointer (some ⟨g_f2, 0, none⟩))), (4, (.pointer (some ⟨g_f3, 0, none⟩))), (5, (.pointer (some ⟨g_f4, 0, none⟩))), (7, (iv x1002)), (18, (.slice A_f2 f2.length c_f2)), (19, (iv (f2.length : Int))), (20, (iv x1002)), (40, (.bool (((rdD f2 (rdD l1001 (w64 (p0 - 1)) 0) z_Tile).E) == ((rdD f2 x1002 z_Tile).W))))] [.idx A999 (w64 (p0 - 1)) l1001.length, .idx A_f2 (rdD l1001 (w64 (p0 - 1)) 0) f2.length] [0, 1, 2, 3, 4] [(3, ⟨g_f2, 0, none⟩, (.slice A_f2 f2.length c_f2)), (4, ⟨g_f3, 0, none⟩, (.slice A999 l1001.length c1000)), (8, ((adr A999).add ((w64 (p0 - 1)).toNat * 1)), (iv (rdD l1001 (w64 (p0 - 1)) 0))), (11, (((adr A_f2).add (((rdD l1001 (w64 (p0 - 1)) 0)).toNat * 4)).add 1), (iv ((rdD f2 (rdD l1001 (w64 (p0 - 1)) 0) z_Tile).E))), (13, ⟨g1018, 3, none⟩, (iv ((rdD f2 x1002 z_Tile).W)))] (fun fb => by kernel_rfl) rfl ⟨rowR.adr (rowO.rd (hS1044.own 5).1) h1047.1 h1047.2, rowR.adr (hS1044.rd 2).1 h1048.1 h1048.2, trivial⟩ rfl ?_
     refine WL.done rfl ?_
     injection hx1037 with hx1037
     exact WX.to Kx1036 (((rdD f2 (rdD l1001 (w64 (p0 - 1)) 0) z_Tile).E) == ((rdD f2 x1002 z_Tile).W)) [0, 2, 3, 4, 5, 7, 18, 19, 20, 40] rfl ⟨(hS1044.subR [0, 1, 2, 3]).sub [1, 2, 3, 4, 5] (by decide), hx1037.symm⟩
    rintro y1052 w1049 ⟨hS1050, hq1051⟩
    subst hq1051
    refine WX.next ?_
    obtain ⟨x1075, hx1076, hl1015⟩ := bind_some hl1015
    refine WC.cutN (T := ((List Row) × (List Int)) × (Option Addr) × Nat × (Nat → HF) × (Option Addr) × Nat) (fun t => [(0, (iv p0)), (2, (.pointer (some ⟨g_f1, 0, none⟩))), (3, (.pointer (some ⟨g_f2, 0, none⟩))), (4, (.pointer (some ⟨g_f3, 0, none⟩))), (5, (.pointer (some ⟨g_f4, 0, none⟩))), (18, (.slice A_f2 f2.length c_f2)), (19, (iv (f2.length : Int))), (20, (iv x1002))]) (fun t w1 => St (fpL [blk g_f1 (.cells #[(.slice A_f1 f1.length c_f1)] 82 (0, 0)), rowO 88 encN_Row A_f1 c_f1 (tag H_f1 f1), poolO [nestO subN_Row H_f1 f1], blk g_f3 (.cells #[(.slice A_f3 f3.length c_f3)] 36 (0, 0)), rowO 3 encInt A_f3 c_f3 f3]) w w1 [blk g_f0 (.cells #[(iv f0)] 3 (0, 0)), blk g_f2 (.cells #[(.slice A_f2 f2.length c_f2)] 22 (0, 0)), rowR enc_Tile A_f2 c_f2 f2, blk g_f4 (.cells #[(.func (.func 82) #[] #[(.pointer (some ⟨g_f0, 0, none⟩)), (.pointer (some ⟨g_f1, 0, none⟩)), (.pointer (some ⟨g_f2, 0, none⟩)), (.pointer (some ⟨g_f3, 0, none⟩)), (.pointer (some ⟨g_f4, 0, none⟩))])] 115 (0, 0))] [blk g_f1 (.cells #[(.slice t.2.1 t.1.1.length t.2.2.1)] 82 (0, 0)), rowO 88 encN_Row t.2.1 t.2.2.1 (tag t.2.2.2.1 t.1.1), poolO [nestO subN_Row t.2.2.2.1 t.1.1], blk g_f3 (.cells #[(.slice t.2.2.2.2.1 t.1.2.length t.2.2.2.2.2)] 36 (0, 0)), rowO 3 encInt t.2.2.2.2.1 t.2.2.2.2.2 t.1.2] ∧ x1075 = t.1) (fun Kx1075 => ?_) ?_
    ·
     rcases br_some hx1076 with ⟨h1077, hx1076⟩ | ⟨h1077, hx1076⟩
     ·refine WC.condT2 (fun fb => by kernel_rfl) h1077 ?_
      refine WC.seq ?_
      refine WC.region ?_
      refine seg 3 [.v (.slice A999 l1001.length c1000)] [0, 2, 3, 4, 5, 18, 19, 20, 41, 42, 43] [(0, (iv p0)), (2, (.pointer (some ⟨g_f1, 0, none⟩))), (3, (.pointer (some ⟨g_f2, 0, none⟩))), (4, (.pointer (some ⟨g_f3, 0, none⟩))), (5, (.pointer (some ⟨g_f4, 0, none⟩))), (18, (.slice A_f2 f2.length c_f2)), (19, (iv (f2.length : Int))), (20, (iv x1002)), (41, (.slice A999 l1001.length c1000)), (42, (iv p0)), (43, (iv x1002))] [.cell ⟨g_f3, 0, none⟩ (.slice A999 l1001.length c1000)] (fun fb => by kernel_rfl) rfl ⟨hS1050.cell 3 rfl 0 rfl, trivial⟩ ?_
      obtain ⟨h1078, hx1076⟩ := as_some hx1076
      refine seg 4 [] [0, 2, 3, 4, 5, 18, 19, 20, 43, 44] [(0, (iv p0)), (2, (.pointer (some ⟨g_f1, 0, none⟩))), (3, (.pointer (some ⟨g_f2, 0, none⟩))), (4, (.pointer (some ⟨g_f3, 0, none⟩))), (5, (.pointer (some ⟨g_f4, 0, none⟩))), (18, (.slice A_f2 f2.length c_f2)), (19, (iv (f2.length : Int))), (20, (iv x1002)), (43, (iv x1002)), (44, (.pointer (some ((adr A999).add ((p0).toNat * 1)))))] [.idx A999 p0 l1001.length] (fun fb => by kernel_rfl) rfl ⟨rowR.adr (rowO.rd (hS1050.own 4).1) h1078.1 h1078.2, trivial⟩ ?_
      refine WL.storeRow hS1050 4 rfl (p0) (x1002) (0) [(0, (iv x1002))] (fun fb => by kernel_rfl) h1078.1 h1078.2 (by kernel_rfl) rfl [0, 1, 2, 3] (by decide) (by decide) (fun w1079 hS1080 => ?_)
      refine ⟨trivial, ?_⟩
      have hS1081 : St (fpL [blk g_f1 (.cells #[(.slice A_f1 f1.length c_f1)] 82 (0, 0)), rowO 88 encN_Row A_f1 c_f1 (tag H_f1 f1), poolO [nestO subN_Row H_f1 f1], blk g_f3 (.cells #[(.slice A_f3 f3.length c_f3)] 36 (0, 0)), rowO 3 encInt A_f3 c_f3 f3]) w w1079 [blk g_f0 (.cells #[(iv f0)] 3 (0, 0)), blk g_f2 (.cells #[(.slice A_f2 f2.length c_f2)] 22 (0, 0)), rowR enc_Tile A_f2 c_f2 f2, blk g_f4 (.cells #[(.func (.func 82) #[] #[(.pointer (some ⟨g_f0, 0, none⟩)), (.pointer (some ⟨g_f1, 0, none⟩)), (.pointer (some ⟨g_f2, 0, none⟩)), (.pointer (some ⟨g_f3, 0, none⟩)), (.pointer (some ⟨g_f4, 0, none⟩))])] 115 (0, 0))] [rowO 3 encInt A999 c1000 (l1001.set (p0).toNat x1002), blk g_f1 (.cells #[(.slice A995 l997.length c996)] 82 (0, 0)), rowO 88 encN_Row A995 c996 (tag H998 l997), poolO [nestO subN_Row H998 l997], blk g_f3 (.cells #[(.slice A999 (l1001.set (p0).toNat x1002).length c1000)] 36 (0, 0))] := by simpa only [List.length_set] using (show St (fpL [blk g_f1 (.cells #[(.slice A_f1 f1.length c_f1)] 82 (0, 0)), rowO 88 encN_Row A_f1 c_f1 (tag H_f1 f1), poolO [nestO subN_Row H_f1 f1], blk g_f3 (.cells #[(.slice A_f3 f3.length c_f3)] 36 (0, 0)), rowO 3 encInt A_f3 c_f3 f3]) w w1079 [blk g_f0 (.cells #[(iv f0)] 3 (0, 0)), blk g_f2 (.cells #[(.slice A_f2 f2.length c_f2)] 22 (0, 0)), rowR enc_Tile A_f2 c_f2 f2, blk g_f4 (.cells #[(.func (.func 82) #[] #[(.pointer (some ⟨g_f0, 0, none⟩)), (.pointer (some ⟨g_f1, 0, none⟩)), (.pointer (some ⟨g_f2, 0, none⟩)), (.pointer (some ⟨g_f3, 0, none⟩)), (.pointer (some ⟨g_f4, 0, none⟩))])] 115 (0, 0))] [rowO 3 encInt A999 c1000 (l1001.set (p0).toNat x1002), blk g_f1 (.cells #[(.slice A995 l997.length c996)] 82 (0, 0)), rowO 88 encN_Row A995 c996 (tag H998 l997), poolO [nestO subN_Row H998 l997], blk g_f3 (.cells #[(.slice A999 l1001.length c1000)] 36 (0, 0))] from hS1080)
      refine WL.done rfl ?_
      refine WX.next ?_
      refine WC.region ?_
      refine seg 3 [.v (.func (.func 82) #[] #[(.pointer (some ⟨g_f0, 0, none⟩)), (.pointer (some ⟨g_f1, 0, none⟩)), (.pointer (some ⟨g_f2, 0, none⟩)), (.pointer (some ⟨g_f3, 0, none⟩)), (.pointer (some ⟨g_f4, 0, none⟩))])] [0, 2, 3, 4, 5, 18, 19, 20, 45, 47] [(0, (iv p0)), (2, (.pointer (some ⟨g_f1, 0, none⟩))), (3, (.pointer (some ⟨g_f2, 0, none⟩))), (4, (.pointer (some ⟨g_f3, 0, none⟩))), (5, (.pointer (some ⟨g_f4, 0, none⟩))), (18, (.slice A_f2 f2.length c_f2)), (19, (iv (f2.length : Int))), (20, (iv x1002)), (45, (.func (.func 82) #[] #[(.pointer (some ⟨g_f0, 0, none⟩)), (.pointer (some ⟨g_f1, 0, none⟩)), (.pointer (some ⟨g_f2, 0, none⟩)), (.pointer (some ⟨g_f3, 0, none⟩)), (.pointer (some ⟨g_f4, 0, none⟩))])), (47, (iv (w64 (p0 + 1))))] [.cell ⟨g_f4, 0, none⟩ (.func (.func 82) #[] #[(.pointer (some ⟨g_f0, 0, none⟩)), (.pointer (some ⟨g_f1, 0, none⟩)), (.pointer (some ⟨g_f2, 0, none⟩)), (.pointer (some ⟨g_f3, 0, none⟩)), (.pointer (some ⟨g_f4, 0, none⟩))])] (fun fb => by kernel_rfl) rfl ⟨blk_cell (hS1081.rd 3).1 0 rfl, trivial⟩ ?_
      obtain ⟨t1082, ht1083, hx1076⟩ := bind_some hx1076
      refine WL.call (some 48) 82 #[(iv (w64 (p0 + 1))), (.pointer (some ⟨g_f0, 0, none⟩)), (.pointer (some ⟨g_f1, 0, none⟩)), (.pointer (some ⟨g_f2, 0, none⟩)), (.pointer (some ⟨g_f3, 0, none⟩)), (.pointer (some ⟨g_f4, 0, none⟩))] (fun fb => by kernel_rfl) (ih_ (w64 (p0 + 1)) f0 l997 f2 (l1001.set (p0).toNat x1002) g_f0 g_f1 A995 c996 H998 g_f2 A_f2 c_f2 g_f3 A999 c1000 g_f4 t1082 _ (hS1081.rdT [1, 2, 3, 4, 0] 0) (hS1081.rdT [1, 2, 3, 4, 0] 1) (hS1081.rdT [1, 2, 3, 4, 0] 2) (hS1081.rdT [1, 2, 3, 4, 0] 3) (hS1081.io [1, 2, 3, 4, 0] (by decide)) ht1083) (fun v w1084 hR1085 => ?_)
      obtain ⟨A1087, c1088, H1089, A1090, c1091, rfl, hk_⟩ := hR1085
      have hS1086 : St (fpL [blk g_f1 (.cells #[(.slice A_f1 f1.length c_f1)] 82 (0, 0)), rowO 88 encN_Row A_f1 c_f1 (tag H_f1 f1), poolO [nestO subN_Row H_f1 f1], blk g_f3 (.cells #[(.slice A_f3 f3.length c_f3)] 36 (0, 0)), rowO 3 encInt A_f3 c_f3 f3]) w w1084 [blk g_f0 (.cells #[(iv f0)] 3 (0, 0)), blk g_f2 (.cells #[(.slice A_f2 f2.length c_f2)] 22 (0, 0)), rowR enc_Tile A_f2 c_f2 f2, blk g_f4 (.cells #[(.func (.func 82) #[] #[(.pointer (some ⟨g_f0, 0, none⟩)), (.pointer (some ⟨g_f1, 0, none⟩)), (.pointer (some ⟨g_f2, 0, none⟩)), (.pointer (some ⟨g_f3, 0, none⟩)), (.pointer (some ⟨g_f4, 0, none⟩))])] 115 (0, 0))] [blk g_f1 (.cells #[(.slice A1087 t1082.1.length c1088)] 82 (0, 0)), rowO 88 encN_Row A1087 c1088 (tag H1089 t1082.1), poolO [nestO subN_Row H1089 t1082.1], blk g_f3 (.cells #[(.slice A1090 t1082.2.length c1091)] 36 (0, 0)), rowO 3 encInt A1090 c1091 t1082.2] := hS1081.call hk_ [1, 2, 3, 4, 0] [] (fun g hg => fpL_sel g hg) (by decide) (by decide)
      refine ⟨trivial, ?_⟩
      refine WL.done rfl ?_
      injection hx1076 with hx1076
      exact WX.to Kx1075 ((t1082.1, t1082.2), A1087, c1088, H1089, A1090, c1091) [0, 2, 3, 4, 5, 18, 19, 20] rfl ⟨(hS1086.subR [0, 1, 2, 3]).sub [0, 1, 2, 3, 4] (by decide), hx1076.symm⟩
     refine WC.condF2 (fun fb => by kernel_rfl) h1077 ?_
     refine WC.skip ?_
     injection hx1076 with hx1076
     exact WX.to Kx1075 ((l997, l1001), A995, c996, H998, A999, c1000) [0, 2, 3, 4, 5, 18, 19, 20] rfl ⟨(hS1050.subR [0, 1, 2, 3]).sub [0, 1, 2, 3, 4] (by decide), hx1076.symm⟩
    rintro ⟨y1095, A1068, c1069, H1071, A1072, c1073⟩ w1092 ⟨hS1093, hq1094⟩
    subst hq1094
    refine WX.blockN (WX.next ?_)
    refine WC.region ?_
    refine seg 2 [] [0, 2, 3, 4, 5, 18, 19, 20] [(0, (iv p0)), (2, (.pointer (some ⟨g_f1, 0, none⟩))), (3, (.pointer (some ⟨g_f2, 0, none⟩))), (4, (.pointer (some ⟨g_f3, 0, none⟩))), (5, (.pointer (some ⟨g_f4, 0, none⟩))), (18, (.slice A_f2 f2.length c_f2)), (19, (iv (f2.length : Int))), (20, (iv (w64 (x1002 + 1))))] [] (fun fb => by kernel_rfl) rfl trivial ?_
    refine WL.done rfl ?_
    exact WX.again k1012 (Nat.lt_succ_self _) ((x1075.1, x1075.2, w64 (x1002 + 1)), A1068, c1069, H1071, A1072, c1073) [0, 2, 3, 4, 5, 18, 19, 20] rfl ⟨(hS1093.subR [0, 1, 2, 3]).sub [0, 1, 2, 3, 4] (by decide), hl1015⟩
   refine WC.condF2 (fun fb => by kernel_rfl) h1016 ?_
   refine WC.exit ?_
   injection hl1015 with hl1015
   exact WX.thenX (WX.thenX (WX.blockHere (WX.to Kx1010 ((l997, l1001), A995, c996, H998, A999, c1000) [2, 4] rfl ⟨(hS1014.subR [0, 1, 2, 3]).sub [0, 1, 2, 3, 4] (by decide), hl1015.symm⟩)))
 rintro ⟨y1099, A1003, c1004, H1006, A1007, c1008⟩ w1096 ⟨hS1097, hq1098⟩
 subst hq1098
 injection hf with hf
 subst hf
 exact WX.end_ [] (.tuple #[]) [] (fun fb => by kernel_rfl) trivial ⟨_, rfl, A1003, c1004, H1006, A1007, c1008, rfl, (hS1097.sub [0, 1, 2, 3, 4] (by decide)).noR⟩
theorem rows_All_calls (k : Nat) (p0 : List Tile) (p1 : Int) (A_p0 : Option Addr) (c_p0 : Nat) (r : (List Row)) (w : World) (hR0 : RO NoS w (rowR enc_Tile A_p0 c_p0 p0)) (hf : rows_All k p0 p1 = some r) :
  CallsR Try.prog 67 #[(.slice A_p0 p0.length c_p0), (iv p1)] w (fun v w' => ∃ (A1_ : Option Addr), ∃ (c1_ : Nat), ∃ (h1_ : Nat → HF), v = (.slice A1_ r.length c1_) ∧ St NoS w w' [] [rowO 88 encN_Row A1_ c1_ (tag h1_ r), poolO [nestO subN_Row h1_ r]]) := by
 have hS : St NoS w w [rowR enc_Tile A_p0 c_p0 p0] [] := St.init (ro_cons hR0 (ro_nil _ _))
 refine enter 14 Try.func67 rfl Try.ntmps67 rfl ?_
 unfold rows_All at hf
 refine WC.seq ?_
 refine WC.region ?_
 refine WL.new hS 2 [] (fun g => (.pointer (some ⟨g, 0, none⟩))) (.cells #[(.slice A_p0 p0.length c_p0)] 22 (0, 0)) [] (fun fb g => by kernel_rfl) trivial (fun g422 w423 hS424 => ?_)
 refine ⟨trivial, ?_⟩
 refine WL.new hS424 3 [] (fun g => (.pointer (some ⟨g, 0, none⟩))) (.cells #[(iv p1)] 3 (0, 0)) [] (fun fb g => by kernel_rfl) trivial (fun g426 w427 hS428 => ?_)
 refine ⟨trivial, ?_⟩
 refine seg 3 [] [2, 3] [(2, (pt g422)), (3, (pt g426))] [] (fun fb => by kernel_rfl) rfl trivial ?_
 refine WL.done rfl ?_
 refine WX.next ?_
 refine WC.seq ?_
 refine WC.region ?_
 refine WL.new hS428 5 [] (fun g => (.pointer (some ⟨g, 0, none⟩))) (.cells #[(.slice none 0 0)] 82 (0, 0)) [] (fun fb g => by kernel_rfl) trivial (fun g430 w431 hS432 => ?_)
 refine ⟨trivial, ?_⟩
 refine WL.done rfl ?_
 refine WX.next ?_
 refine WC.seq ?_
 refine WC.region ?_
 refine seg 1 [.v (iv p1)] [2, 3, 5, 8] [(2, (pt g422)), (3, (pt g426)), (5, (pt g430)), (8, (iv p1))] [.cell ⟨g426, 0, none⟩ (iv p1)] (fun fb => by kernel_rfl) rfl ⟨hS432.cell 1 rfl 0 rfl, trivial⟩ ?_
 obtain ⟨h434, hf⟩ := as_some hf
 refine WL.make hS432 (e := encInt) (T := 3) (tS := 36) (z := (iv 0)) (bytes := 8) (d := 9) (0 : Int) p1 (fun fb => by kernel_rfl) (by kernel_rfl) (by kernel_rfl) rfl (by decide) h434 (by decide) (fun g435 w436 hS437 => ?_)
 refine ⟨trivial, ?_⟩
 refine WL.new hS437 6 [] (fun g => (.pointer (some ⟨g, 0, none⟩))) (.cells #[(.slice none 0 0)] 36 (0, 0)) [] (fun fb g => by kernel_rfl) trivial (fun g438 w439 hS440 => ?_)
 refine ⟨trivial, ?_⟩
 refine WL.store hS440 0 rfl [(0, (.slice (some ⟨g435, 0, none⟩) (List.replicate p1.toNat (0 : Int)).length p1.toNat))] #[(.slice (some ⟨g435, 0, none⟩) (List.replicate p1.toNat (0 : Int)).length p1.toNat)] (fun fb => by kernel_rfl) (by kernel_rfl) rfl [1, 2, 3, 4] (by decide) (by decide) (fun w442 hS443 => ?_)
 refine ⟨trivial, ?_⟩
 refine WL.done rfl ?_
 refine WX.next ?_
 refine WC.seq ?_
 refine WC.region ?_
 refine WL.new hS443 7 [] (fun g => (.pointer (some ⟨g, 0, none⟩))) (.cells #[.nilFunc] 115 (0, 0)) [] (fun fb g => by kernel_rfl) trivial (fun g444 w445 hS446 => ?_)
 refine ⟨trivial, ?_⟩
 refine WL.done rfl ?_
 refine WX.next ?_
 refine WC.seq ?_
 refine WC.region ?_
 refine seg 1 [] [5, 7, 10] [(5, (pt g430)), (7, (pt g444)), (10, (.func (.func 82) #[] #[(pt g426), (pt g430), (pt g422), (pt g438), (pt g444)]))] [] (fun fb => by kernel_rfl) rfl trivial ?_
 refine WL.store hS446 0 rfl [(0, (.func (.func 82) #[] #[(pt g426), (pt g430), (pt g422), (pt g438), (pt g444)]))] #[(.func (.func 82) #[] #[(pt g426), (pt g430), (pt g422), (pt g438), (pt g444)])] (fun fb => by kernel_rfl) (by kernel_rfl) rfl [1, 2, 3, 4, 5] (by decide) (by decide) (fun w448 hS449 => ?_)
 refine ⟨trivial, ?_⟩
 refine WL.done rfl ?_
 refine WX.next ?_
 refine WC.seq ?_
 refine WC.region ?_
 refine seg 1 [.v (.func (.func 82) #[] #[(pt g426), (pt g430), (pt g422), (pt g438), (pt g444)])] [5, 11] [(5, (pt g430)), (11, (.func (.func 82) #[] #[(pt g426), (pt g430), (pt g422), (pt g438), (pt g444)]))] [.cell ⟨g444, 0, none⟩ (.func (.func 82) #[] #[(pt g426), (pt g430), (pt g422), (pt g438), (pt g444)])] (fun fb => by kernel_rfl) rfl ⟨hS449.cell 0 rfl 0 rfl, trivial⟩ ?_
 have hS1100 : St NoS w w448 [rowR enc_Tile A_p0 c_p0 p0] [rowO 88 encN_Row none 0 (tag h0 ([] : List Row)), blk g444 (.cells #[(.func (.func 82) #[] #[(pt g426), (pt g430), (pt g422), (pt g438), (pt g444)])] 115 (0, 0)), blk g438 (.cells #[(.slice (some ⟨g435, 0, none⟩) (List.replicate p1.toNat (0 : Int)).length p1.toNat)] 36 (0, 0)), rowO 3 encInt (some ⟨g435, 0, none⟩) p1.toNat (List.replicate p1.toNat (0 : Int)), blk g430 (.cells #[(.slice none 0 0)] 82 (0, 0)), blk g426 (.cells #[(iv p1)] 3 (0, 0)), blk g422 (.cells #[(.slice A_p0 p0.length c_p0)] 22 (0, 0))] := hS449.nilrow 88 encN_Row
 have hS1101 := hS1100.poolNil subN_Row h0
 obtain ⟨t1102, ht1103, hf⟩ := bind_some hf
 refine WL.call (some 12) 82 #[(iv 0), (pt g426), (pt g430), (pt g422), (pt g438), (pt g444)] (fun fb => by kernel_rfl) (rows_All_1_calls _ 0 p1 ([] : List Row) p0 (List.replicate p1.toNat (0 : Int)) g426 g430 none 0 h0 g422 A_p0 c_p0 g438 (some ⟨g435, 0, none⟩) p1.toNat g444 t1102 _ (hS1101.owT [5, 1, 0, 3, 4] 6 (by decide)) (hS1101.owT [5, 1, 0, 3, 4] 7 (by decide)) (hS1101.rdT [5, 1, 0, 3, 4] 0) (hS1101.owT [5, 1, 0, 3, 4] 2 (by decide)) (hS1101.io [5, 1, 0, 3, 4] (by decide)) ht1103) (fun v w1104 hR1105 => ?_)
 obtain ⟨A1107, c1108, H1109, A1110, c1111, rfl, hk_⟩ := hR1105
 have hS1106 : St NoS w w1104 [rowR enc_Tile A_p0 c_p0 p0] [blk g430 (.cells #[(.slice A1107 t1102.1.length c1108)] 82 (0, 0)), rowO 88 encN_Row A1107 c1108 (tag H1109 t1102.1), poolO [nestO subN_Row H1109 t1102.1], blk g438 (.cells #[(.slice A1110 t1102.2.length c1111)] 36 (0, 0)), rowO 3 encInt A1110 c1111 t1102.2, blk g444 (.cells #[(.func (.func 82) #[] #[(pt g426), (pt g430), (pt g422), (pt g438), (pt g444)])] 115 (0, 0)), blk g426 (.cells #[(iv p1)] 3 (0, 0)), blk g422 (.cells #[(.slice A_p0 p0.length c_p0)] 22 (0, 0))] := hS1101.call hk_ [5, 1, 0, 3, 4] [2, 6, 7] (fun g hg => fpL_sel g hg) (by decide) (by decide)
 refine ⟨trivial, ?_⟩
 refine WL.done rfl ?_
 refine WX.next ?_
 refine WC.seq ?_
 refine WC.region ?_
 refine seg 2 [.v (.slice A1107 t1102.1.length c1108)] [4] [(4, (.slice A1107 t1102.1.length c1108))] [.cell ⟨g430, 0, none⟩ (.slice A1107 t1102.1.length c1108)] (fun fb => by kernel_rfl) rfl ⟨hS1106.cell 0 rfl 0 rfl, trivial⟩ ?_
 refine WL.done rfl ?_
 refine WX.next ?_
 refine WC.ret ?_
 injection hf with hf
 subst hf
 exact WX.ret_ [] (.slice A1107 t1102.1.length c1108) [] (fun fb => by kernel_rfl) trivial ⟨_, rfl, A1107, c1108, H1109, rfl, (hS1106.sub [1, 2] (by decide)).noR⟩
theorem fill_begin_calls (k : Nat) (p0 : List Tile) (p1 : Int) (p2 : Int) (p3 : Edges) (A_p0 : Option Addr) (c_p0 : Nat) (A_p3_North : Option Addr) (c_p3_North : Nat) (A_p3_East : Option Addr) (c_p3_East : Nat) (A_p3_South : Option Addr) (c_p3_South : Nat) (A_p3_West : Option Addr) (c_p3_West : Nat) (r : (Option Job) × Int) (w : World) (hR0 : RO NoS w (rowR enc_Tile A_p0 c_p0 p0)) (hR1 : RO NoS w (rowR encInt A_p3_North c_p3_North p3.North)) (hR2 : RO NoS w (rowR encInt A_p3_East c_p3_East p3.East)) (hR3 : RO NoS w (rowR encInt A_p3_South c_p3_South p3.South)) (hR4 : RO NoS w (rowR encInt A_p3_West c_p3_West p3.West)) (hf : fill_begin k p0 p1 p2 p3 = some r) :
  CallsR Try.prog 54 #[(.slice A_p0 p0.length c_p0), (iv p1), (iv p2), (.agg #[(.slice A_p3_North p3.North.length c_p3_North), (.slice A_p3_East p3.East.length c_p3_East), (.slice A_p3_South p3.South.length c_p3_South), (.slice A_p3_West p3.West.length c_p3_West)])] w (fun v w' => ∃ (g1_ : Nat), ∃ (A2_ : Option Addr), ∃ (c2_ : Nat), ∃ (h2_ : Nat → HF), v = (.tuple #[(optP r.1 g1_), (iv r.2)]) ∧ optS r.1 (Keeps NoS w w') (fun y_ => St NoS w w' [] [blk g1_ (.cells #[(.slice A2_ y_.rows.length c2_), (iv y_.width), (iv y_.height), (.slice A_p3_North p3.North.length c_p3_North), (.slice A_p3_East p3.East.length c_p3_East), (.slice A_p3_South p3.South.length c_p3_South), (.slice A_p3_West p3.West.length c_p3_West)] 84 (0, 0)), rowO 88 encN_Row A2_ c2_ (tag h2_ y_.rows), poolO [nestO subN_Row h2_ y_.rows]])) := by
 have hS : St NoS w w [rowR enc_Tile A_p0 c_p0 p0, rowR encInt A_p3_North c_p3_North p3.North, rowR encInt A_p3_East c_p3_East p3.East, rowR encInt A_p3_South c_p3_South p3.South, rowR encInt A_p3_West c_p3_West p3.West] [] := St.init (ro_cons hR0 (ro_cons hR1 (ro_cons hR2 (ro_cons hR3 (ro_cons hR4 (ro_nil _ _))))))
 refine enter 76 Try.func54 rfl Try.ntmps54 rfl ?_
 unfold fill_begin at hf
 refine WC.seq ?_
 refine WC.region ?_
 refine WL.new hS 7 [] (fun g => (.pointer (some ⟨g, 0, none⟩))) (.cells #[(.slice A_p3_North p3.North.length c_p3_North), (.slice A_p3_East p3.East.length c_p3_East), (.slice A_p3_South p3.South.length c_p3_South), (.slice A_p3_West p3.West.length c_p3_West)] 57 (0, 0)) [] (fun fb g => by kernel_rfl) trivial (fun g1138 w1139 hS1140 => ?_)
 refine ⟨trivial, ?_⟩
 refine seg 3 [] [0, 1, 2, 7] [(0, (.slice A_p0 p0.length c_p0)), (1, (iv p1)), (2, (iv p2)), (7, (pt g1138))] [] (fun fb => by kernel_rfl) rfl trivial ?_
 refine WL.done rfl ?_
 refine WX.next ?_
 refine WC.seq ?_
 refine WC.seq ?_
 refine WC.region ?_
 refine seg 1 [] [0, 1, 2, 7, 12] [(0, (.slice A_p0 p0.length c_p0)), (1, (iv p1)), (2, (iv p2)), (7, (pt g1138)), (12, (.slice A_p0 p0.length c_p0))] [] (fun fb => by kernel_rfl) rfl trivial ?_
 obtain ⟨t1142, ht1143, hf⟩ := bind_some hf
 refine WL.call (some 13) 38 #[(.slice A_p0 p0.length c_p0)] (fun fb => by kernel_rfl) (tile_Valid_calls _ p0 A_p0 c_p0 t1142 _ (hS1140.rd 0) ht1143) (fun v w1144 hR1145 => ?_)
 obtain ⟨rfl, hk_⟩ := hR1145
 have hS1146 := hS1140.keepN hk_
 refine ⟨trivial, ?_⟩
 refine seg 3 [] [0, 1, 2, 7, 14] [(0, (.slice A_p0 p0.length c_p0)), (1, (iv p1)), (2, (iv p2)), (7, (pt g1138)), (14, (.bool (!t1142)))] [] (fun fb => by kernel_rfl) rfl trivial ?_
 refine WL.done rfl ?_
 refine WX.next ?_
 rcases br_some hf with ⟨h1147, hf⟩ | ⟨h1147, hf⟩
 ·refine WC.condT2 (fun fb => by kernel_rfl) h1147 ?_
  refine WC.seq ?_
  refine WC.region ?_
  refine seg 2 [] [8, 9] [(8, (.pointer none)), (9, (iv 1))] [] (fun fb => by kernel_rfl) rfl trivial ?_
  refine WL.done rfl ?_
  refine WX.next ?_
  refine WC.ret ?_
  injection hf with hf
  subst hf
  exact WX.thenR (WX.ret_ [] (.tuple #[(.pointer none), (iv 1)]) [] (fun fb => by kernel_rfl) trivial ⟨_, rfl, 0, none, 0, h0, rfl, hS1146.keep⟩)
 refine WC.condF2 (fun fb => by kernel_rfl) h1147 ?_
 refine WC.skip ?_
 refine WX.next ?_
 refine WC.seq ?_
 refine WC.seq ?_
 refine WC.region ?_
 refine seg 3 [] [0, 1, 2, 7, 17] [(0, (.slice A_p0 p0.length c_p0)), (1, (iv p1)), (2, (iv p2)), (7, (pt g1138)), (17, (.bool (decide (p1 < 1))))] [] (fun fb => by kernel_rfl) rfl trivial ?_
 refine WL.cutV (T := Bool) 6 (fun t => [(20, (.bool t)), (0, (.slice A_p0 p0.length c_p0)), (1, (iv p1)), (2, (iv p2)), (7, (pt g1138))]) (fun t => ((decide (p1 < 1)) || (decide (p1 > 8))) = t) (fun K => ?_) ?_
 ·
  rcases Bool.eq_false_or_eq_true (decide (p1 < 1)) with h1148 | h1148
  ·
   refine WL.setB 17 h1148 rfl ?_
   refine seg 6 [] [0, 1, 2, 7, 20] [(0, (.slice A_p0 p0.length c_p0)), (1, (iv p1)), (2, (iv p2)), (7, (pt g1138)), (20, (.bool true))] [] (fun fb => by kernel_rfl) rfl trivial ?_
   exact WL.toV K true [20, 0, 1, 2, 7] rfl (by first | (rw [h1148]; done) | (rw [h1148]; rfl))
  refine WL.setB 17 h1148 rfl ?_
  refine seg 6 [] [0, 1, 2, 7, 20] [(0, (.slice A_p0 p0.length c_p0)), (1, (iv p1)), (2, (iv p2)), (7, (pt g1138)), (20, (.bool (decide (p1 > 8))))] [] (fun fb => by kernel_rfl) rfl trivial ?_
  exact WL.toV K (decide (p1 > 8)) [20, 0, 1, 2, 7] rfl (by first | (rw [h1148]; done) | (rw [h1148]; rfl))
 rintro b1149 rfl
 refine seg 7 [] [0, 1, 2, 7, 21] [(0, (.slice A_p0 p0.length c_p0)), (1, (iv p1)), (2, (iv p2)), (7, (pt g1138)), (21, (.bool ((decide (p1 < 1)) || (decide (p1 > 8)))))] [] (fun fb => by kernel_rfl) rfl trivial ?_
 refine WL.cutV (T := Bool) 10 (fun t => [(24, (.bool t)), (0, (.slice A_p0 p0.length c_p0)), (1, (iv p1)), (2, (iv p2)), (7, (pt g1138))]) (fun t => (((decide (p1 < 1)) || (decide (p1 > 8))) || (decide (p2 < 1))) = t) (fun K => ?_) ?_
 ·
  rcases Bool.eq_false_or_eq_true ((decide (p1 < 1)) || (decide (p1 > 8))) with h1150 | h1150
  ·
   refine WL.setB 21 h1150 rfl ?_
   refine seg 10 [] [0, 1, 2, 7, 24] [(0, (.slice A_p0 p0.length c_p0)), (1, (iv p1)), (2, (iv p2)), (7, (pt g1138)), (24, (.bool true))] [] (fun fb => by kernel_rfl) rfl trivial ?_
   exact WL.toV K true [24, 0, 1, 2, 7] rfl (by first | (rw [h1150]; done) | (rw [h1150]; rfl))
  refine WL.setB 21 h1150 rfl ?_
  refine seg 10 [] [0, 1, 2, 7, 24] [(0, (.slice A_p0 p0.length c_p0)), (1, (iv p1)), (2, (iv p2)), (7, (pt g1138)), (24, (.bool (decide (p2 < 1))))] [] (fun fb => by kernel_rfl) rfl trivial ?_
  exact WL.toV K (decide (p2 < 1)) [24, 0, 1, 2, 7] rfl (by first | (rw [h1150]; done) | (rw [h1150]; rfl))
 rintro b1151 rfl
 refine seg 11 [] [0, 1, 2, 7, 25] [(0, (.slice A_p0 p0.length c_p0)), (1, (iv p1)), (2, (iv p2)), (7, (pt g1138)), (25, (.bool (((decide (p1 < 1)) || (decide (p1 > 8))) || (decide (p2 < 1)))))] [] (fun fb => by kernel_rfl) rfl trivial ?_
 refine WL.cutV (T := Bool) 14 (fun t => [(28, (.bool t)), (0, (.slice A_p0 p0.length c_p0)), (1, (iv p1)), (2, (iv p2)), (7, (pt g1138))]) (fun t => ((((decide (p1 < 1)) || (decide (p1 > 8))) || (decide (p2 < 1))) || (decide (p2 > 60))) = t) (fun K => ?_) ?_
 ·
  rcases Bool.eq_false_or_eq_true (((decide (p1 < 1)) || (decide (p1 > 8))) || (decide (p2 < 1))) with h1152 | h1152
  ·
   refine WL.setB 25 h1152 rfl ?_
   refine seg 14 [] [0, 1, 2, 7, 28] [(0, (.slice A_p0 p0.length c_p0)), (1, (iv p1)), (2, (iv p2)), (7, (pt g1138)), (28, (.bool true))] [] (fun fb => by kernel_rfl) rfl trivial ?_
   exact WL.toV K true [28, 0, 1, 2, 7] rfl (by first | (rw [h1152]; done) | (rw [h1152]; rfl))
  refine WL.setB 25 h1152 rfl ?_
  refine seg 14 [] [0, 1, 2, 7, 28] [(0, (.slice A_p0 p0.length c_p0)), (1, (iv p1)), (2, (iv p2)), (7, (pt g1138)), (28, (.bool (decide (p2 > 60))))] [] (fun fb => by kernel_rfl) rfl trivial ?_
  exact WL.toV K (decide (p2 > 60)) [28, 0, 1, 2, 7] rfl (by first | (rw [h1152]; done) | (rw [h1152]; rfl))
 rintro b1153 rfl
 refine WL.done rfl ?_
 refine WX.next ?_
 rcases br_some hf with ⟨h1154, hf⟩ | ⟨h1154, hf⟩
 ·refine WC.condT2 (fun fb => by kernel_rfl) h1154 ?_
  refine WC.seq ?_
  refine WC.region ?_
  refine seg 2 [] [8, 9] [(8, (.pointer none)), (9, (iv 2))] [] (fun fb => by kernel_rfl) rfl trivial ?_
  refine WL.done rfl ?_
  refine WX.next ?_
  refine WC.ret ?_
  injection hf with hf
  subst hf
  exact WX.thenR (WX.ret_ [] (.tuple #[(.pointer none), (iv 2)]) [] (fun fb => by kernel_rfl) trivial ⟨_, rfl, 0, none, 0, h0, rfl, hS1146.keep⟩)
 refine WC.condF2 (fun fb => by kernel_rfl) h1154 ?_
 refine WC.skip ?_
 refine WX.next ?_
 refine WC.seq ?_
 refine WC.seq ?_
 refine WC.region ?_
 refine seg 16 [.v (.slice A_p3_North p3.North.length c_p3_North), .v (.slice A_p3_South p3.South.length c_p3_South), .v (.slice A_p3_East p3.East.length c_p3_East), .v (.slice A_p3_West p3.West.length c_p3_West)] [0, 1, 2, 7, 32, 36, 40, 44] [(0, (.slice A_p0 p0.length c_p0)), (1, (iv p1)), (2, (iv p2)), (7, (pt g1138)), (32, (.agg #[(.slice A_p3_North p3.North.length c_p3_North), (iv p1)])), (36, (.agg #[(.slice A_p3_South p3.South.length c_p3_South), (iv p1)])), (40, (.agg #[(.slice A_p3_East p3.East.length c_p3_East), (iv p2)])), (44, (.agg #[(.slice A_p3_West p3.West.length c_p3_West), (iv p2)]))] [.cell ⟨g1138, 0, none⟩ (.slice A_p3_North p3.North.length c_p3_North), .cell ⟨g1138, 2, none⟩ (.slice A_p3_South p3.South.length c_p3_South), .cell ⟨g1138, 1, none⟩ (.slice A_p3_East p3.East.length c_p3_East), .cell ⟨g1138, 3, none⟩ (.slice A_p3_West p3.West.length c_p3_West)] (fun fb => by kernel_rfl) rfl ⟨hS1146.cell 0 rfl 0 rfl, hS1146.cell 0 rfl 2 rfl, hS1146.cell 0 rfl 1 rfl, hS1146.cell 0 rfl 3 rfl, trivial⟩ ?_
 refine WL.new hS1146 45 [] (fun g => (.slice (some ⟨g, 0, none⟩) 4 4)) (.cells #[(.slice A_p3_North p3.North.length c_p3_North), (iv p1), (.slice A_p3_South p3.South.length c_p3_South), (iv p1), (.slice A_p3_East p3.East.length c_p3_East), (iv p2), (.slice A_p3_West p3.West.length c_p3_West), (iv p2)] 108 (0, 0)) [] (fun fb g => by kernel_rfl) trivial (fun g1155 w1156 hS1157 => ?_)
 refine ⟨trivial, ?_⟩
 have hS1160 : St NoS w w1156 [nestO subN_S108 (hlN [(hd1 A_p3_North c_p3_North), (hd1 A_p3_South c_p3_South), (hd1 A_p3_East c_p3_East), (hd1 A_p3_West c_p3_West)]) [(S108.mk p3.North p1), (S108.mk p3.South p1), (S108.mk p3.East p2), (S108.mk p3.West p2)], rowR enc_Tile A_p0 c_p0 p0, rowR encInt A_p3_North c_p3_North p3.North, rowR encInt A_p3_East c_p3_East p3.East, rowR encInt A_p3_South c_p3_South p3.South, rowR encInt A_p3_West c_p3_West p3.West] [blk g1155 (.cells #[(.slice A_p3_North p3.North.length c_p3_North), (iv p1), (.slice A_p3_South p3.South.length c_p3_South), (iv p1), (.slice A_p3_East p3.East.length c_p3_East), (iv p2), (.slice A_p3_West p3.West.length c_p3_West), (iv p2)] 108 (0, 0)), blk g1138 (.cells #[(.slice A_p3_North p3.North.length c_p3_North), (.slice A_p3_East p3.East.length c_p3_East), (.slice A_p3_South p3.South.length c_p3_South), (.slice A_p3_West p3.West.length c_p3_West)] 57 (0, 0))] := hS1157.addR _ (nestO_cons (hS1157.rdL 1) (nestO_cons (hS1157.rdL 3) (nestO_cons (hS1157.rdL 2) (nestO_cons (hS1157.rdL 4) (nestO_nil _ _ _ _)))))
 have hS1159 : St NoS w w1156 [nestO subN_S108 (hlN [(hd1 A_p3_North c_p3_North), (hd1 A_p3_South c_p3_South), (hd1 A_p3_East c_p3_East), (hd1 A_p3_West c_p3_West)]) [(S108.mk p3.North p1), (S108.mk p3.South p1), (S108.mk p3.East p2), (S108.mk p3.West p2)], rowR enc_Tile A_p0 c_p0 p0, rowR encInt A_p3_North c_p3_North p3.North, rowR encInt A_p3_East c_p3_East p3.East, rowR encInt A_p3_South c_p3_South p3.South, rowR encInt A_p3_West c_p3_West p3.West] [rowO 108 encN_S108 (some ⟨g1155, 0, none⟩) 4 (tag (hlN [(hd1 A_p3_North c_p3_North), (hd1 A_p3_South c_p3_South), (hd1 A_p3_East c_p3_East), (hd1 A_p3_West c_p3_West)]) [(S108.mk p3.North p1), (S108.mk p3.South p1), (S108.mk p3.East p2), (S108.mk p3.West p2)]), blk g1138 (.cells #[(.slice A_p3_North p3.North.length c_p3_North), (.slice A_p3_East p3.East.length c_p3_East), (.slice A_p3_South p3.South.length c_p3_South), (.slice A_p3_West p3.West.length c_p3_West)] 57 (0, 0))] := hS1160.map1 0 _ (fun h => rowO.ofBlk h rfl (Nat.le_of_ble_eq_true (by kernel_rfl))) (fun _ h => by obtain ⟨_, h1, h2⟩ := h; injection h1 with h1; subst h1; exact h2) [1] (by decide) (by decide)
 refine seg 19 [] [0, 1, 2, 7, 45, 46, 47] [(0, (.slice A_p0 p0.length c_p0)), (1, (iv p1)), (2, (iv p2)), (7, (pt g1138)), (45, (.slice (some ⟨g1155, 0, none⟩) [(S108.mk p3.North p1), (S108.mk p3.South p1), (S108.mk p3.East p2), (S108.mk p3.West p2)].length 4)), (46, (iv ([(S108.mk p3.North p1), (S108.mk p3.South p1), (S108.mk p3.East p2), (S108.mk p3.West p2)].length : Int))), (47, (iv 0))] [] (fun fb => by kernel_rfl) rfl trivial ?_
 refine WL.done rfl ?_
 refine WX.next ?_
 obtain ⟨x1185, hx1186, hf⟩ := bind_some hf
 refine WC.cutN (T := Unit) (fun t => [(0, (.slice A_p0 p0.length c_p0)), (1, (iv p1)), (2, (iv p2)), (7, (pt g1138))]) (fun t w1 => St NoS w w1 [nestO subN_S108 (hlN [(hd1 A_p3_North c_p3_North), (hd1 A_p3_South c_p3_South), (hd1 A_p3_East c_p3_East), (hd1 A_p3_West c_p3_West)]) [(S108.mk p3.North p1), (S108.mk p3.South p1), (S108.mk p3.East p2), (S108.mk p3.West p2)], rowR enc_Tile A_p0 c_p0 p0, rowR encInt A_p3_North c_p3_North p3.North, rowR encInt A_p3_East c_p3_East p3.East, rowR encInt A_p3_South c_p3_South p3.South, rowR encInt A_p3_West c_p3_West p3.West] [blk g1138 (.cells #[(.slice A_p3_North p3.North.length c_p3_North), (.slice A_p3_East p3.East.length c_p3_East), (.slice A_p3_South p3.South.length c_p3_South), (.slice A_p3_West p3.West.length c_p3_West)] 57 (0, 0))] ∧ x1185 = .inr t) (fun Kx1185 => ?_) ?_
 ·
  refine WC.block ?_
  refine WC.loop (T := Int) (fun t => [(0, (.slice A_p0 p0.length c_p0)), (1, (iv p1)), (2, (iv p2)), (7, (pt g1138)), (45, (.slice (some ⟨g1155, 0, none⟩) [(S108.mk p3.North p1), (S108.mk p3.South p1), (S108.mk p3.East p2), (S108.mk p3.West p2)].length 4)), (46, (iv ([(S108.mk p3.North p1), (S108.mk p3.South p1), (S108.mk p3.East p2), (S108.mk p3.West p2)].length : Int))), (47, (iv t))]) (fun n t w1 => St NoS w w1 [nestO subN_S108 (hlN [(hd1 A_p3_North c_p3_North), (hd1 A_p3_South c_p3_South), (hd1 A_p3_East c_p3_East), (hd1 A_p3_West c_p3_West)]) [(S108.mk p3.North p1), (S108.mk p3.South p1), (S108.mk p3.East p2), (S108.mk p3.West p2)], rowR enc_Tile A_p0 c_p0 p0, rowR encInt A_p3_North c_p3_North p3.North, rowR encInt A_p3_East c_p3_East p3.East, rowR encInt A_p3_South c_p3_South p3.South, rowR encInt A_p3_West c_p3_West p3.West] [blk g1138 (.cells #[(.slice A_p3_North p3.North.length c_p3_North), (.slice A_p3_East p3.East.length c_p3_East), (.slice A_p3_South p3.South.length c_p3_South), (.slice A_p3_West p3.West.length c_p3_West)] 57 (0, 0)), rowO 108 encN_S108 (some ⟨g1155, 0, none⟩) 4 (tag (hlN [(hd1 A_p3_North c_p3_North), (hd1 A_p3_South c_p3_South), (hd1 A_p3_East c_p3_East), (hd1 A_p3_West c_p3_West)]) [(S108.mk p3.North p1), (S108.mk p3.South p1), (S108.mk p3.East p2), (S108.mk p3.West p2)])] ∧ fill_begin.l0 n t p1 p2 p3 = some x1185) k 0 [0, 1, 2, 7, 45, 46, 47] rfl ⟨(hS1159.subR [0, 1, 2, 3, 4, 5]).sub [1, 0] (by decide), hx1186⟩ ?_
  rintro k1187 x1184 w1188 ⟨hS1189, hl1190⟩
  cases k1187 with
  | zero => rw [fill_begin.l0] at hl1190; cases hl1190
  | succ k1187 =>
   rw [fill_begin.l0] at hl1190
   refine WC.seq ?_
   refine WC.region ?_
   refine seg 1 [] [0, 1, 2, 7, 45, 46, 47, 48] [(0, (.slice A_p0 p0.length c_p0)), (1, (iv p1)), (2, (iv p2)), (7, (pt g1138)), (45, (.slice (some ⟨g1155, 0, none⟩) [(S108.mk p3.North p1), (S108.mk p3.South p1), (S108.mk p3.East p2), (S108.mk p3.West p2)].length 4)), (46, (iv ([(S108.mk p3.North p1), (S108.mk p3.South p1), (S108.mk p3.East p2), (S108.mk p3.West p2)].length : Int))), (47, (iv x1184)), (48, (.bool (decide (x1184 < ([(S108.mk p3.North p1), (S108.mk p3.South p1), (S108.mk p3.East p2), (S108.mk p3.West p2)].length : Int)))))] [] (fun fb => by kernel_rfl) rfl trivial ?_
   refine WL.done rfl ?_
   refine WX.next ?_
   refine WC.seq ?_
   rcases br_some hl1190 with ⟨h1191, hl1190⟩ | ⟨h1191, hl1190⟩
   ·refine WC.condT2 (fun fb => by kernel_rfl) h1191 ?_
    refine WC.skip ?_
    refine WX.next ?_
    refine WC.seq ?_
    refine WC.block ?_
    refine WC.seq ?_
    refine WC.region ?_
    obtain ⟨h1192, hl1190⟩ := as_some hl1190
    refine seg 2 [.v (.slice (((hlN [(hd1 A_p3_North c_p3_North), (hd1 A_p3_South c_p3_South), (hd1 A_p3_East c_p3_East), (hd1 A_p3_West c_p3_West)]) x1184.toNat 0).1) ((rdD [(S108.mk p3.North p1), (S108.mk p3.South p1), (S108.mk p3.East p2), (S108.mk p3.West p2)] x1184 z_S108).side).length (((hlN [(hd1 A_p3_North c_p3_North), (hd1 A_p3_South c_p3_South), (hd1 A_p3_East c_p3_East), (hd1 A_p3_West c_p3_West)]) x1184.toNat 0).2)), .v (iv ((rdD [(S108.mk p3.North p1), (S108.mk p3.South p1), (S108.mk p3.East p2), (S108.mk p3.West p2)] x1184 z_S108).n))] [0, 1, 2, 7, 45, 46, 47, 50] [(0, (.slice A_p0 p0.length c_p0)), (1, (iv p1)), (2, (iv p2)), (7, (pt g1138)), (45, (.slice (some ⟨g1155, 0, none⟩) [(S108.mk p3.North p1), (S108.mk p3.South p1), (S108.mk p3.East p2), (S108.mk p3.West p2)].length 4)), (46, (iv ([(S108.mk p3.North p1), (S108.mk p3.South p1), (S108.mk p3.East p2), (S108.mk p3.West p2)].length : Int))), (47, (iv x1184)), (50, (.agg #[(.slice (((hlN [(hd1 A_p3_North c_p3_North), (hd1 A_p3_South c_p3_South), (hd1 A_p3_East c_p3_East), (hd1 A_p3_West c_p3_West)]) x1184.toNat 0).1) ((rdD [(S108.mk p3.North p1), (S108.mk p3.South p1), (S108.mk p3.East p2), (S108.mk p3.West p2)] x1184 z_S108).side).length (((hlN [(hd1 A_p3_North c_p3_North), (hd1 A_p3_South c_p3_South), (hd1 A_p3_East c_p3_East), (hd1 A_p3_West c_p3_West)]) x1184.toNat 0).2)), (iv ((rdD [(S108.mk p3.North p1), (S108.mk p3.South p1), (S108.mk p3.East p2), (S108.mk p3.West p2)] x1184 z_S108).n))]))] [.idx (some ⟨g1155, 0, none⟩) x1184 [(S108.mk p3.North p1), (S108.mk p3.South p1), (S108.mk p3.East p2), (S108.mk p3.West p2)].length, .cell ((adr (some ⟨g1155, 0, none⟩)).add ((x1184).toNat * 2)) (.slice (((hlN [(hd1 A_p3_North c_p3_North), (hd1 A_p3_South c_p3_South), (hd1 A_p3_East c_p3_East), (hd1 A_p3_West c_p3_West)]) x1184.toNat 0).1) ((rdD [(S108.mk p3.North p1), (S108.mk p3.South p1), (S108.mk p3.East p2), (S108.mk p3.West p2)] x1184 z_S108).side).length (((hlN [(hd1 A_p3_North c_p3_North), (hd1 A_p3_South c_p3_South), (hd1 A_p3_East c_p3_East), (hd1 A_p3_West c_p3_West)]) x1184.toNat 0).2)), .cell (((adr (some ⟨g1155, 0, none⟩)).add ((x1184).toNat * 2)).add 1) (iv ((rdD [(S108.mk p3.North p1), (S108.mk p3.South p1), (S108.mk p3.East p2), (S108.mk p3.West p2)] x1184 z_S108).n))] (fun fb => by kernel_rfl) rfl ⟨nrow_adr (rowO.rd (hS1189.own 1).1) h1192.1 h1192.2, nrow_cell (rowO.rd (hS1189.own 1).1) z_S108 h1192.1 h1192.2 0 rfl, nrow_cell (rowO.rd (hS1189.own 1).1) z_S108 h1192.1 h1192.2 1 rfl, trivial⟩ ?_
    refine WL.new hS1189 11 [] (fun g => (.pointer (some ⟨g, 0, none⟩))) (.cells #[(.slice none 0 0), (iv 0)] 108 (0, 0)) [] (fun fb g => by kernel_rfl) trivial (fun g1193 w1194 hS1195 => ?_)
    refine ⟨trivial, ?_⟩
    refine WL.store hS1195 0 rfl [(0, (.slice (((hlN [(hd1 A_p3_North c_p3_North), (hd1 A_p3_South c_p3_South), (hd1 A_p3_East c_p3_East), (hd1 A_p3_West c_p3_West)]) x1184.toNat 0).1) ((rdD [(S108.mk p3.North p1), (S108.mk p3.South p1), (S108.mk p3.East p2), (S108.mk p3.West p2)] x1184 z_S108).side).length (((hlN [(hd1 A_p3_North c_p3_North), (hd1 A_p3_South c_p3_South), (hd1 A_p3_East c_p3_East), (hd1 A_p3_West c_p3_West)]) x1184.toNat 0).2))), (1, (iv ((rdD [(S108.mk p3.North p1), (S108.mk p3.South p1), (S108.mk p3.East p2), (S108.mk p3.West p2)] x1184 z_S108).n)))] #[(.slice (((hlN [(hd1 A_p3_North c_p3_North), (hd1 A_p3_South c_p3_South), (hd1 A_p3_East c_p3_East), (hd1 A_p3_West c_p3_West)]) x1184.toNat 0).1) ((rdD [(S108.mk p3.North p1), (S108.mk p3.South p1), (S108.mk p3.East p2), (S108.mk p3.West p2)] x1184 z_S108).side).length (((hlN [(hd1 A_p3_North c_p3_North), (hd1 A_p3_South c_p3_South), (hd1 A_p3_East c_p3_East), (hd1 A_p3_West c_p3_West)]) x1184.toNat 0).2)), (iv ((rdD [(S108.mk p3.North p1), (S108.mk p3.South p1), (S108.mk p3.East p2), (S108.mk p3.West p2)] x1184 z_S108).n))] (fun fb => by kernel_rfl) (by kernel_rfl) rfl [1, 2] (by decide) (by decide) (fun w1197 hS1198 => ?_)
    refine ⟨trivial, ?_⟩
    refine WL.done rfl ?_
    refine WX.next ?_
    refine WC.seq ?_
    refine WC.region ?_
    refine seg 5 [.v (.slice (((hlN [(hd1 A_p3_North c_p3_North), (hd1 A_p3_South c_p3_South), (hd1 A_p3_East c_p3_East), (hd1 A_p3_West c_p3_West)]) x1184.toNat 0).1) ((rdD [(S108.mk p3.North p1), (S108.mk p3.South p1), (S108.mk p3.East p2), (S108.mk p3.West p2)] x1184 z_S108).side).length (((hlN [(hd1 A_p3_North c_p3_North), (hd1 A_p3_South c_p3_South), (hd1 A_p3_East c_p3_East), (hd1 A_p3_West c_p3_West)]) x1184.toNat 0).2))] [0, 1, 2, 7, 11, 45, 46, 47, 55] [(0, (.slice A_p0 p0.length c_p0)), (1, (iv p1)), (2, (iv p2)), (7, (pt g1138)), (11, (pt g1193)), (45, (.slice (some ⟨g1155, 0, none⟩) [(S108.mk p3.North p1), (S108.mk p3.South p1), (S108.mk p3.East p2), (S108.mk p3.West p2)].length 4)), (46, (iv ([(S108.mk p3.North p1), (S108.mk p3.South p1), (S108.mk p3.East p2), (S108.mk p3.West p2)].length : Int))), (47, (iv x1184)), (55, (.bool ((((rdD [(S108.mk p3.North p1), (S108.mk p3.South p1), (S108.mk p3.East p2), (S108.mk p3.West p2)] x1184 z_S108).side).length : Int) != 0)))] [.cell ⟨g1193, 0, none⟩ (.slice (((hlN [(hd1 A_p3_North c_p3_North), (hd1 A_p3_South c_p3_South), (hd1 A_p3_East c_p3_East), (hd1 A_p3_West c_p3_West)]) x1184.toNat 0).1) ((rdD [(S108.mk p3.North p1), (S108.mk p3.South p1), (S108.mk p3.East p2), (S108.mk p3.West p2)] x1184 z_S108).side).length (((hlN [(hd1 A_p3_North c_p3_North), (hd1 A_p3_South c_p3_South), (hd1 A_p3_East c_p3_East), (hd1 A_p3_West c_p3_West)]) x1184.toNat 0).2))] (fun fb => by kernel_rfl) rfl ⟨hS1198.cell 0 rfl 0 rfl, trivial⟩ ?_
    refine WL.cutV (T := Bool) 12 (fun t => [(62, (.bool t)), (0, (.slice A_p0 p0.length c_p0)), (1, (iv p1)), (2, (iv p2)), (7, (pt g1138)), (45, (.slice (some ⟨g1155, 0, none⟩) [(S108.mk p3.North p1), (S108.mk p3.South p1), (S108.mk p3.East p2), (S108.mk p3.West p2)].length 4)), (46, (iv ([(S108.mk p3.North p1), (S108.mk p3.South p1), (S108.mk p3.East p2), (S108.mk p3.West p2)].length : Int))), (47, (iv x1184))]) (fun t => (((((rdD [(S108.mk p3.North p1), (S108.mk p3.South p1), (S108.mk p3.East p2), (S108.mk p3.West p2)] x1184 z_S108).side).length : Int) != 0) && ((((rdD [(S108.mk p3.North p1), (S108.mk p3.South p1), (S108.mk p3.East p2), (S108.mk p3.West p2)] x1184 z_S108).side).length : Int) != ((rdD [(S108.mk p3.North p1), (S108.mk p3.South p1), (S108.mk p3.East p2), (S108.mk p3.West p2)] x1184 z_S108).n))) = t) (fun K => ?_) ?_
    ·
     rcases Bool.eq_false_or_eq_true ((((rdD [(S108.mk p3.North p1), (S108.mk p3.South p1), (S108.mk p3.East p2), (S108.mk p3.West p2)] x1184 z_S108).side).length : Int) != 0) with h1199 | h1199
     ·
      refine WL.setB 55 h1199 rfl ?_
      refine seg 12 [.v (.slice (((hlN [(hd1 A_p3_North c_p3_North), (hd1 A_p3_South c_p3_South), (hd1 A_p3_East c_p3_East), (hd1 A_p3_West c_p3_West)]) x1184.toNat 0).1) ((rdD [(S108.mk p3.North p1), (S108.mk p3.South p1), (S108.mk p3.East p2), (S108.mk p3.West p2)] x1184 z_S108).side).length (((hlN [(hd1 A_p3_North c_p3_North), (hd1 A_p3_South c_p3_South), (hd1 A_p3_East c_p3_East), (hd1 A_p3_West c_p3_West)]) x1184.toNat 0).2)), .v (iv ((rdD [(S108.mk p3.North p1), (S108.mk p3.South p1), (S108.mk p3.East p2), (S108.mk p3.West p2)] x1184 z_S108).n))] [0, 1, 2, 7, 45, 46, 47, 62] [(0, (.slice A_p0 p0.length c_p0)), (1, (iv p1)), (2, (iv p2)), (7, (pt g1138)), (45, (.slice (some ⟨g1155, 0, none⟩) [(S108.mk p3.North p1), (S108.mk p3.South p1), (S108.mk p3.East p2), (S108.mk p3.West p2)].length 4)), (46, (iv ([(S108.mk p3.North p1), (S108.mk p3.South p1), (S108.mk p3.East p2), (S108.mk p3.West p2)].length : Int))), (47, (iv x1184)), (62, (.bool ((((rdD [(S108.mk p3.North p1), (S108.mk p3.South p1), (S108.mk p3.East p2), (S108.mk p3.West p2)] x1184 z_S108).side).length : Int) != ((rdD [(S108.mk p3.North p1), (S108.mk p3.South p1), (S108.mk p3.East p2), (S108.mk p3.West p2)] x1184 z_S108).n))))] [.cell ⟨g1193, 0, none⟩ (.slice (((hlN [(hd1 A_p3_North c_p3_North), (hd1 A_p3_South c_p3_South), (hd1 A_p3_East c_p3_East), (hd1 A_p3_West c_p3_West)]) x1184.toNat 0).1) ((rdD [(S108.mk p3.North p1), (S108.mk p3.South p1), (S108.mk p3.East p2), (S108.mk p3.West p2)] x1184 z_S108).side).length (((hlN [(hd1 A_p3_North c_p3_North), (hd1 A_p3_South c_p3_South), (hd1 A_p3_East c_p3_East), (hd1 A_p3_West c_p3_West)]) x1184.toNat 0).2)), .cell ⟨g1193, 1, none⟩ (iv ((rdD [(S108.mk p3.North p1), (S108.mk p3.South p1), (S108.mk p3.East p2), (S108.mk p3.West p2)] x1184 z_S108).n))] (fun fb => by kernel_rfl) rfl ⟨hS1198.cell 0 rfl 0 rfl, hS1198.cell 0 rfl 1 rfl, trivial⟩ ?_
      exact WL.toV K ((((rdD [(S108.mk p3.North p1), (S108.mk p3.South p1), (S108.mk p3.East p2), (S108.mk p3.West p2)] x1184 z_S108).side).length : Int) != ((rdD [(S108.mk p3.North p1), (S108.mk p3.South p1), (S108.mk p3.East p2), (S108.mk p3.West p2)] x1184 z_S108).n)) [62, 0, 1, 2, 7, 45, 46, 47] rfl (by first | (rw [h1199]; done) | (rw [h1199]; rfl))
     refine WL.setB 55 h1199 rfl ?_
     refine seg 12 [] [0, 1, 2, 7, 45, 46, 47, 62] [(0, (.slice A_p0 p0.length c_p0)), (1, (iv p1)), (2, (iv p2)), (7, (pt g1138)), (45, (.slice (some ⟨g1155, 0, none⟩) [(S108.mk p3.North p1), (S108.mk p3.South p1), (S108.mk p3.East p2), (S108.mk p3.West p2)].length 4)), (46, (iv ([(S108.mk p3.North p1), (S108.mk p3.South p1), (S108.mk p3.East p2), (S108.mk p3.West p2)].length : Int))), (47, (iv x1184)), (62, (.bool false))] [] (fun fb => by kernel_rfl) rfl trivial ?_
     exact WL.toV K false [62, 0, 1, 2, 7, 45, 46, 47] rfl (by first | (rw [h1199]; done) | (rw [h1199]; rfl))
    rintro b1200 rfl
    refine WL.done rfl ?_
    refine WX.next ?_
    rcases br_some hl1190 with ⟨h1201, hl1190⟩ | ⟨h1201, hl1190⟩
    ·refine WC.condT2 (fun fb => by kernel_rfl) h1201 ?_
     refine WC.seq ?_
     refine WC.region ?_
     refine seg 2 [] [8, 9] [(8, (.pointer none)), (9, (iv 2))] [] (fun fb => by kernel_rfl) rfl trivial ?_
     refine WL.done rfl ?_
     refine WX.next ?_
     refine WC.ret ?_
     injection hl1190 with hl1190
     subst hl1190
     injection hf with hf
     subst hf
     exact WX.blockR (WX.thenR (WX.thenR (WX.blockR (WX.thenR (WX.ret_ [] (.tuple #[(.pointer none), (iv 2)]) [] (fun fb => by kernel_rfl) trivial ⟨_, rfl, 0, none, 0, h0, rfl, hS1198.keep⟩)))))
    refine WC.condF2 (fun fb => by kernel_rfl) h1201 ?_
    refine WC.skip ?_
    refine WX.blockN (WX.next ?_)
    refine WC.region ?_
    refine seg 2 [] [0, 1, 2, 7, 45, 46, 47] [(0, (.slice A_p0 p0.length c_p0)), (1, (iv p1)), (2, (iv p2)), (7, (pt g1138)), (45, (.slice (some ⟨g1155, 0, none⟩) [(S108.mk p3.North p1), (S108.mk p3.South p1), (S108.mk p3.East p2), (S108.mk p3.West p2)].length 4)), (46, (iv ([(S108.mk p3.North p1), (S108.mk p3.South p1), (S108.mk p3.East p2), (S108.mk p3.West p2)].length : Int))), (47, (iv (w64 (x1184 + 1))))] [] (fun fb => by kernel_rfl) rfl trivial ?_
    refine WL.done rfl ?_
    exact WX.again k1187 (Nat.lt_succ_self _) (w64 (x1184 + 1)) [0, 1, 2, 7, 45, 46, 47] rfl ⟨(hS1198.subR [0, 1, 2, 3, 4, 5]).sub [1, 2] (by decide), hl1190⟩
   refine WC.condF2 (fun fb => by kernel_rfl) h1191 ?_
   refine WC.exit ?_
   injection hl1190 with hl1190
   exact WX.thenX (WX.thenX (WX.blockHere (WX.to Kx1185 () [0, 1, 2, 7] rfl ⟨(hS1189.subR [0, 1, 2, 3, 4, 5]).sub [0] (by decide), hl1190.symm⟩)))
 rintro y1205 w1202 ⟨hS1203, hq1204⟩
 subst hq1204
 have hf := sum_inr hf
 refine WX.next ?_
 refine WC.seq ?_
 refine WC.seq ?_
 refine WC.region ?_
 refine seg 2 [] [0, 1, 2, 7, 64, 65] [(0, (.slice A_p0 p0.length c_p0)), (1, (iv p1)), (2, (iv p2)), (7, (pt g1138)), (64, (.slice A_p0 p0.length c_p0)), (65, (iv p1))] [] (fun fb => by kernel_rfl) rfl trivial ?_
 obtain ⟨t1207, ht1208, hf⟩ := bind_some hf
 refine WL.call (some 66) 45 #[(.slice A_p0 p0.length c_p0), (iv p1)] (fun fb => by kernel_rfl) (rows_Few_calls _ p0 p1 A_p0 c_p0 t1207 _ (hS1203.rd 1) ht1208) (fun v w1209 hR1210 => ?_)
 obtain ⟨rfl, hk_⟩ := hR1210
 have hS1211 := hS1203.keepN hk_
 refine ⟨trivial, ?_⟩
 refine seg 4 [] [0, 1, 2, 7, 67] [(0, (.slice A_p0 p0.length c_p0)), (1, (iv p1)), (2, (iv p2)), (7, (pt g1138)), (67, (.bool (!t1207)))] [] (fun fb => by kernel_rfl) rfl trivial ?_
 refine WL.done rfl ?_
 refine WX.next ?_
 rcases br_some hf with ⟨h1212, hf⟩ | ⟨h1212, hf⟩
 ·refine WC.condT2 (fun fb => by kernel_rfl) h1212 ?_
  refine WC.seq ?_
  refine WC.region ?_
  refine seg 2 [] [8, 9] [(8, (.pointer none)), (9, (iv 4))] [] (fun fb => by kernel_rfl) rfl trivial ?_
  refine WL.done rfl ?_
  refine WX.next ?_
  refine WC.ret ?_
  injection hf with hf
  subst hf
  exact WX.thenR (WX.ret_ [] (.tuple #[(.pointer none), (iv 4)]) [] (fun fb => by kernel_rfl) trivial ⟨_, rfl, 0, none, 0, h0, rfl, hS1211.keep⟩)
 refine WC.condF2 (fun fb => by kernel_rfl) h1212 ?_
 refine WC.skip ?_
 refine WX.next ?_
 refine WC.seq ?_
 refine WC.regionD ([(5, ⟨g1138, 0, none⟩, (.slice A_p3_North p3.North.length c_p3_North)), (5, ⟨g1138, 1, none⟩, (.slice A_p3_East p3.East.length c_p3_East)), (5, ⟨g1138, 2, none⟩, (.slice A_p3_South p3.South.length c_p3_South)), (5, ⟨g1138, 3, none⟩, (.slice A_p3_West p3.West.length c_p3_West))], [0, 1, 3, 4, 5, 6, 8, 9], [[], [], [0, 1], [], [], [], [0, 1, 2, 3, 4, 5], [0, 1, 2, 3, 4, 5, 6], [0, 1, 2, 3, 4, 5, 6, 7], [0, 1, 2, 3, 4, 5, 6, 7, 8]]) [[0, 1, 3, 4, 5, 2, 6, 7, 8, 9]] (by kernel_rfl) (by kernel_rfl) (NoPanic.seq (NoPanic.body)) ?_
 have hS1226 := hS1211.drew
 revert hS1226
 generalize World.drew w1209 = w1225
 intro hS1226
 refine ⟨⟨hS1226.cell 0 rfl 0 rfl, hS1226.cell 0 rfl 1 rfl, hS1226.cell 0 rfl 2 rfl, hS1226.cell 0 rfl 3 rfl, trivial⟩, forallC ?_ (forallN)⟩
 refine segF 5 [.v (.slice A_p3_North p3.North.length c_p3_North), .v (.slice A_p3_East p3.East.length c_p3_East), .v (.slice A_p3_South p3.South.length c_p3_South), .v (.slice A_p3_West p3.West.length c_p3_West)] [68, 69, 71, 72, 73] [(68, (.slice A_p0 p0.length c_p0)), (69, (iv p1)), (71, (iv p1)), (72, (iv p2)), (73, (.agg #[(.slice A_p3_North p3.North.length c_p3_North), (.slice A_p3_East p3.East.length c_p3_East), (.slice A_p3_South p3.South.length c_p3_South), (.slice A_p3_West p3.West.length c_p3_West)]))] [] [0, 1, 2, 3] [(5, ⟨g1138, 0, none⟩, (.slice A_p3_North p3.North.length c_p3_North)), (5, ⟨g1138, 1, none⟩, (.slice A_p3_East p3.East.length c_p3_East)), (5, ⟨g1138, 2, none⟩, (.slice A_p3_South p3.South.length c_p3_South)), (5, ⟨g1138, 3, none⟩, (.slice A_p3_West p3.West.length c_p3_West))] (fun fb => by kernel_rfl) rfl trivial rfl ?_
 obtain ⟨t1227, ht1228, hf⟩ := bind_some hf
 refine WL.call (some 70) 67 #[(.slice A_p0 p0.length c_p0), (iv p1)] (fun fb => by kernel_rfl) (rows_All_calls _ p0 p1 A_p0 c_p0 t1227 _ (hS1226.rd 1) ht1228) (fun v w1229 hR1230 => ?_)
 obtain ⟨A1232, c1233, H1234, rfl, hk_⟩ := hR1230
 have hS1231 : St NoS w w1229 [nestO subN_S108 (hlN [(hd1 A_p3_North c_p3_North), (hd1 A_p3_South c_p3_South), (hd1 A_p3_East c_p3_East), (hd1 A_p3_West c_p3_West)]) [(S108.mk p3.North p1), (S108.mk p3.South p1), (S108.mk p3.East p2), (S108.mk p3.West p2)], rowR enc_Tile A_p0 c_p0 p0, rowR encInt A_p3_North c_p3_North p3.North, rowR encInt A_p3_East c_p3_East p3.East, rowR encInt A_p3_South c_p3_South p3.South, rowR encInt A_p3_West c_p3_West p3.West] [rowO 88 encN_Row A1232 c1233 (tag H1234 t1227), poolO [nestO subN_Row H1234 t1227], blk g1138 (.cells #[(.slice A_p3_North p3.North.length c_p3_North), (.slice A_p3_East p3.East.length c_p3_East), (.slice A_p3_South p3.South.length c_p3_South), (.slice A_p3_West p3.West.length c_p3_West)] 57 (0, 0))] := hS1226.call hk_ [] [0] (fun g hg => hg.elim) (by simp) (by decide)
 refine ⟨⟨hS1231.cell 2 rfl 0 rfl, hS1231.cell 2 rfl 1 rfl, hS1231.cell 2 rfl 2 rfl, hS1231.cell 2 rfl 3 rfl, trivial⟩, ?_⟩
 refine seg 7 [] [74] [(74, (.agg #[(.slice A1232 t1227.length c1233), (iv p1), (iv p2), (.slice A_p3_North p3.North.length c_p3_North), (.slice A_p3_East p3.East.length c_p3_East), (.slice A_p3_South p3.South.length c_p3_South), (.slice A_p3_West p3.West.length c_p3_West)]))] [] (fun fb => by kernel_rfl) rfl trivial ?_
 refine WL.new hS1231 75 [] (fun g => (.pointer (some ⟨g, 0, none⟩))) (.cells #[(.slice A1232 t1227.length c1233), (iv p1), (iv p2), (.slice A_p3_North p3.North.length c_p3_North), (.slice A_p3_East p3.East.length c_p3_East), (.slice A_p3_South p3.South.length c_p3_South), (.slice A_p3_West p3.West.length c_p3_West)] 84 (0, 0)) [] (fun fb g => by kernel_rfl) trivial (fun g1235 w1236 hS1237 => ?_)
 refine ⟨trivial, ?_⟩
 refine seg 10 [] [8, 9] [(8, (pt g1235)), (9, (iv 0))] [] (fun fb => by kernel_rfl) rfl trivial ?_
 refine WL.done rfl ?_
 refine WX.next ?_
 refine WC.ret ?_
 injection hf with hf
 subst hf
 exact WX.ret_ [] (.tuple #[(pt g1235), (iv 0)]) [] (fun fb => by kernel_rfl) trivial ⟨_, rfl, g1235, A1232, c1233, H1234, rfl, (hS1237.sub [0, 1, 2] (by decide)).noR⟩
theorem fill_at_calls (p0 : List Int) (p1 : Int) (p2 : Int) (A_p0 : Option Addr) (c_p0 : Nat) (r : Bool) (w : World) (hR0 : RO NoS w (rowR encInt A_p0 c_p0 p0)) (hf : fill_at p0 p1 p2 = some r) :
  CallsR Try.prog 68 #[(.slice A_p0 p0.length c_p0), (iv p1), (iv p2)] w (fun v w' => v = (.bool r) ∧ Keeps NoS w w') := by
 have hS : St NoS w w [rowR encInt A_p0 c_p0 p0] [] := St.init (ro_cons hR0 (ro_nil _ _))
 refine enter 18 Try.func68 rfl Try.ntmps68 rfl ?_
 unfold fill_at at hf
 refine WC.seq ?_
 refine WC.region ?_
 refine seg 1 [] [0, 1, 2] [(0, (.slice A_p0 p0.length c_p0)), (1, (iv p1)), (2, (iv p2))] [] (fun fb => by kernel_rfl) rfl trivial ?_
 refine WL.done rfl ?_
 refine WX.next ?_
 refine WC.seq ?_
 refine WC.region ?_
 refine seg 4 [] [0, 1, 2, 10] [(0, (.slice A_p0 p0.length c_p0)), (1, (iv p1)), (2, (iv p2)), (10, (.bool ((p0.length : Int) == 0)))] [] (fun fb => by kernel_rfl) rfl trivial ?_
 obtain ⟨b1341, hv1342, hf⟩ := bind_some hf
 refine WL.cutV (T := Unit) 11 (fun t => [(17, (.bool b1341))]) (fun t => True) (fun K => ?_) ?_
 ·
  rcases br_some hv1342 with ⟨h1343, hv1342⟩ | ⟨h1343, hv1342⟩
  ·
   refine WL.setB 10 h1343 rfl ?_
   refine seg 11 [] [17] [(17, (.bool true))] [] (fun fb => by kernel_rfl) rfl trivial ?_
   injection hv1342 with hv1342
   subst hv1342
   exact WL.toV K () [17] rfl trivial
  refine WL.setB 10 h1343 rfl ?_
  refine seg 6 [] [2, 10, 11, 12] [(2, (iv p2)), (10, (.bool false)), (11, (.slice A_p0 p0.length c_p0)), (12, (iv p1))] [] (fun fb => by kernel_rfl) rfl trivial ?_
  obtain ⟨h1344, hv1342⟩ := as_some hv1342
  refine seg 11 [.v (iv (rdD p0 p1 0))] [17] [(17, (.bool ((rdD p0 p1 0) == p2)))] [.idx A_p0 p1 p0.length, .cell ((adr A_p0).add ((p1).toNat * 1)) (iv (rdD p0 p1 0))] (fun fb => by kernel_rfl) rfl ⟨rowR.adr (hS.rd 0).1 h1344.1 h1344.2, rowR.cell (hS.rd 0).1 0 h1344.1 h1344.2 0 rfl, trivial⟩ ?_
  injection hv1342 with hv1342
  subst hv1342
  exact WL.toV K () [17] rfl trivial
 rintro _ _
 refine seg 12 [] [6] [(6, (.bool b1341))] [] (fun fb => by kernel_rfl) rfl trivial ?_
 refine WL.done rfl ?_
 refine WX.next ?_
 refine WC.ret ?_
 injection hf with hf
 subst hf
 exact WX.ret_ [] (.bool b1341) [] (fun fb => by kernel_rfl) trivial ⟨_, rfl, rfl, hS.keep⟩
theorem fill_job_allows_calls (k : Nat) (p0 : Job) (p1 : Row) (p2 : Int) (g_p0 : Nat) (A_p0_rows : Option Addr) (c_p0_rows : Nat) (H_p0_rows : Nat → HF) (A_p0_edges_North : Option Addr) (c_p0_edges_North : Nat) (A_p0_edges_East : Option Addr) (c_p0_edges_East : Nat) (A_p0_edges_South : Option Addr) (c_p0_edges_South : Nat) (A_p0_edges_West : Option Addr) (c_p0_edges_West : Nat) (A_p1_Cells : Option Addr) (c_p1_Cells : Nat) (r : Bool) (w : World) (hR0 : RO NoS w (blk g_p0 (.cells #[(.slice A_p0_rows p0.rows.length c_p0_rows), (iv p0.width), (iv p0.height), (.slice A_p0_edges_North p0.edges.North.length c_p0_edges_North), (.slice A_p0_edges_East p0.edges.East.length c_p0_edges_East), (.slice A_p0_edges_South p0.edges.South.length c_p0_edges_South), (.slice A_p0_edges_West p0.edges.West.length c_p0_edges_West)] 84 (0, 0)))) (hR1 : RO NoS w (rowR encN_Row A_p0_rows c_p0_rows (tag H_p0_rows p0.rows))) (hR2 : RO NoS w (nestO subN_Row H_p0_rows p0.rows)) (hR3 : RO NoS w (rowR encInt A_p0_edges_North c_p0_edges_North p0.edges.North)) (hR4 : RO NoS w (rowR encInt A_p0_edges_East c_p0_edges_East p0.edges.East)) (hR5 : RO NoS w (rowR encInt A_p0_edges_South c_p0_edges_South p0.edges.South)) (hR6 : RO NoS w (rowR encInt A_p0_edges_West c_p0_edges_West p0.edges.West)) (hR7 : RO NoS w (rowR encInt A_p1_Cells c_p1_Cells p1.Cells)) (hf : fill_job_allows k p0 p1 p2 = some r) :
  CallsR Try.prog 55 #[(.pointer (some ⟨g_p0, 0, none⟩)), (.agg #[(.slice A_p1_Cells p1.Cells.length c_p1_Cells), (iv p1.South.e0), (iv p1.South.e1), (iv p1.South.e2), (iv p1.South.e3), (iv p1.South.e4), (iv p1.South.e5), (iv p1.South.e6), (iv p1.South.e7), (iv p1.North.e0), (iv p1.North.e1), (iv p1.North.e2), (iv p1.North.e3), (iv p1.North.e4), (iv p1.North.e5), (iv p1.North.e6), (iv p1.North.e7), (iv p1.West), (iv p1.East)]), (iv p2)] w (fun v w' => v = (.bool r) ∧ Keeps NoS w w') := by
 have hS : St NoS w w [blk g_p0 (.cells #[(.slice A_p0_rows p0.rows.length c_p0_rows), (iv p0.width), (iv p0.height), (.slice A_p0_edges_North p0.edges.North.length c_p0_edges_North), (.slice A_p0_edges_East p0.edges.East.length c_p0_edges_East), (.slice A_p0_edges_South p0.edges.South.length c_p0_edges_South), (.slice A_p0_edges_West p0.edges.West.length c_p0_edges_West)] 84 (0, 0)), rowR encN_Row A_p0_rows c_p0_rows (tag H_p0_rows p0.rows), nestO subN_Row H_p0_rows p0.rows, rowR encInt A_p0_edges_North c_p0_edges_North p0.edges.North, rowR encInt A_p0_edges_East c_p0_edges_East p0.edges.East, rowR encInt A_p0_edges_South c_p0_edges_South p0.edges.South, rowR encInt A_p0_edges_West c_p0_edges_West p0.edges.West, rowR encInt A_p1_Cells c_p1_Cells p1.Cells] [] := St.init (ro_cons hR0 (ro_cons hR1 (ro_cons hR2 (ro_cons hR3 (ro_cons hR4 (ro_cons hR5 (ro_cons hR6 (ro_cons hR7 (ro_nil _ _)))))))))
 refine enter 77 Try.func55 rfl Try.ntmps55 rfl ?_
 unfold fill_job_allows at hf
 refine WC.seq ?_
 refine WC.region ?_
 refine WL.new hS 4 [] (fun g => (.pointer (some ⟨g, 0, none⟩))) (.cells #[(.slice A_p1_Cells p1.Cells.length c_p1_Cells), (iv p1.South.e0), (iv p1.South.e1), (iv p1.South.e2), (iv p1.South.e3), (iv p1.South.e4), (iv p1.South.e5), (iv p1.South.e6), (iv p1.South.e7), (iv p1.North.e0), (iv p1.North.e1), (iv p1.North.e2), (iv p1.North.e3), (iv p1.North.e4), (iv p1.North.e5), (iv p1.North.e6), (iv p1.North.e7), (iv p1.West), (iv p1.East)] 88 (0, 0)) [] (fun fb g => by kernel_rfl) trivial (fun g1336 w1337 hS1338 => ?_)
 refine ⟨trivial, ?_⟩
 refine seg 2 [] [0, 2, 4] [(0, (.pointer (some ⟨g_p0, 0, none⟩))), (2, (iv p2)), (4, (pt g1336))] [] (fun fb => by kernel_rfl) rfl trivial ?_
 refine WL.done rfl ?_
 refine WX.next ?_
 refine WC.seq ?_
 refine WC.seq ?_
 refine WC.regionD ([(4, ⟨g_p0, 6, none⟩, (.slice A_p0_edges_West p0.edges.West.length c_p0_edges_West)), (7, ⟨g1336, 17, none⟩, (iv p1.West)), (18, ⟨g1336, 18, none⟩, (iv p1.East))], [0, 1, 2, 3, 4, 5, 6, 7, 9, 10, 11, 12, 13, 14, 16, 17, 18, 20, 21], [[], [0], [0, 1], [0, 1, 2], [0, 1, 2, 3], [], [], [6], [0, 1, 2, 3, 4, 5, 6, 7], [0, 1, 2, 3, 4, 5, 6, 7, 8], [0, 1, 2, 3, 4, 5, 6, 7, 8, 9], [0, 1, 2, 3, 4, 5, 6, 7, 8, 9, 10], [0, 1, 2, 3, 4, 5, 6, 7, 8, 9, 10, 11], [0, 1, 2, 3, 4, 5, 6, 7, 8, 9, 10, 11, 12], [0, 1, 2, 3, 4, 5, 6, 7, 8, 9, 10, 11, 12, 13], [0, 1, 2, 3, 4, 5, 6, 7, 8, 9, 10, 11, 12, 13, 14], [0, 1, 2, 3, 4, 5, 6, 7, 8, 9, 10], [0, 1, 2, 3, 4, 5, 6, 7, 8, 9, 10], [0, 1, 2, 3, 4, 5, 6, 7, 8, 9, 10, 17], [0, 1, 2, 3, 4, 5, 6, 7, 8, 9, 10, 11, 12, 13, 14, 15, 16, 17, 18], [0, 1, 2, 3, 4, 5, 6, 7, 8, 9, 10, 11, 12, 13, 14, 15, 16, 17, 18, 19], [0, 1, 2, 3, 4, 5, 6, 7, 8, 9, 10, 11, 12, 13, 14, 15, 16, 17, 18, 19, 20]]) [[0, 1, 2, 3, 4, 5, 6, 7, 8, 9, 10, 11, 12, 13, 14, 16, 17, 18, 15, 19, 20, 21]] (by kernel_rfl) (by kernel_rfl) (NoPanic.seq (NoPanic.seq (NoPanic.body))) ?_
 have hS1370 := hS1338.drew
 revert hS1370
 generalize World.drew w1337 = w1369
 intro hS1370
 refine ⟨⟨blk_cell (hS1370.rd 0).1 6 rfl, hS1370.cell 0 rfl 17 rfl, hS1370.cell 0 rfl 18 rfl, trivial⟩, forallC ?_ (forallN)⟩
 refine segF 8 [.v (.slice A_p0_edges_West p0.edges.West.length c_p0_edges_West), .v (iv p1.West)] [0, 2, 4, 12, 13, 15] [(0, (.pointer (some ⟨g_p0, 0, none⟩))), (2, (iv p2)), (4, (pt g1336)), (12, (.slice A_p0_edges_West p0.edges.West.length c_p0_edges_West)), (13, (iv p2)), (15, (iv p1.West))] [] [0, 1] [(4, ⟨g_p0, 6, none⟩, (.slice A_p0_edges_West p0.edges.West.length c_p0_edges_West)), (7, ⟨g1336, 17, none⟩, (iv p1.West))] (fun fb => by kernel_rfl) rfl trivial rfl ?_
 obtain ⟨t1371, ht1372, hf⟩ := bind_some hf
 refine WL.call (some 16) 68 #[(.slice A_p0_edges_West p0.edges.West.length c_p0_edges_West), (iv p2), (iv p1.West)] (fun fb => by kernel_rfl) (fill_at_calls p0.edges.West p2 p1.West A_p0_edges_West c_p0_edges_West t1371 _ (hS1370.rd 6) ht1372) (fun v w1373 hR1374 => ?_)
 obtain ⟨rfl, hk_⟩ := hR1374
 have hS1375 := hS1370.keepN hk_
 refine ⟨⟨hS1375.cell 0 rfl 18 rfl, trivial⟩, ?_⟩
 refine seg 11 [] [0, 2, 4, 18] [(0, (.pointer (some ⟨g_p0, 0, none⟩))), (2, (iv p2)), (4, (pt g1336)), (18, (.bool (!t1371)))] [] (fun fb => by kernel_rfl) rfl trivial ?_
 obtain ⟨x1382, hx1383, hf⟩ := bind_some hf
 refine WL.cutW (T := Bool) 22 (fun t => [(0, (.pointer (some ⟨g_p0, 0, none⟩))), (2, (iv p2)), (4, (pt g1336)), (29, (.bool t))]) (fun t w1 => (St NoS w w1 [blk g_p0 (.cells #[(.slice A_p0_rows p0.rows.length c_p0_rows), (iv p0.width), (iv p0.height), (.slice A_p0_edges_North p0.edges.North.length c_p0_edges_North), (.slice A_p0_edges_East p0.edges.East.length c_p0_edges_East), (.slice A_p0_edges_South p0.edges.South.length c_p0_edges_South), (.slice A_p0_edges_West p0.edges.West.length c_p0_edges_West)] 84 (0, 0)), rowR encN_Row A_p0_rows c_p0_rows (tag H_p0_rows p0.rows), nestO subN_Row H_p0_rows p0.rows, rowR encInt A_p0_edges_North c_p0_edges_North p0.edges.North, rowR encInt A_p0_edges_East c_p0_edges_East p0.edges.East, rowR encInt A_p0_edges_South c_p0_edges_South p0.edges.South, rowR encInt A_p0_edges_West c_p0_edges_West p0.edges.West, rowR encInt A_p1_Cells c_p1_Cells p1.Cells] [blk g1336 (.cells #[(.slice A_p1_Cells p1.Cells.length c_p1_Cells), (iv p1.South.e0), (iv p1.South.e1), (iv p1.South.e2), (iv p1.South.e3), (iv p1.South.e4), (iv p1.South.e5), (iv p1.South.e6), (iv p1.South.e7), (iv p1.North.e0), (iv p1.North.e1), (iv p1.North.e2), (iv p1.North.e3), (iv p1.North.e4), (iv p1.North.e5), (iv p1.North.e6), (iv p1.North.e7), (iv p1.West), (iv p1.East)] 88 (0, 0))] ∧ x1382 = t) ∧ CellsOK [] w1) (fun K => ?_) ?_
 ·
  rcases br_some hx1383 with ⟨h1384, hx1383⟩ | ⟨h1384, hx1383⟩
  ·
   refine WL.setB 18 h1384 rfl ?_
   refine seg 22 [] [0, 2, 4, 29] [(0, (.pointer (some ⟨g_p0, 0, none⟩))), (2, (iv p2)), (4, (pt g1336)), (29, (.bool true))] [] (fun fb => by kernel_rfl) rfl trivial ?_
   injection hx1383 with hx1383
   exact WL.to K true [0, 2, 4, 29] rfl ⟨⟨(hS1375.subR [0, 1, 2, 3, 4, 5, 6, 7]).sub [0] (by decide), hx1383.symm⟩, trivial⟩
  refine WL.setB 18 h1384 rfl ?_
  refine segF 19 [.v (iv p1.East), .v (.slice A_p0_edges_East p0.edges.East.length c_p0_edges_East)] [0, 2, 4, 18, 23, 24, 26] [(0, (.pointer (some ⟨g_p0, 0, none⟩))), (2, (iv p2)), (4, (pt g1336)), (18, (.bool false)), (23, (.slice A_p0_edges_East p0.edges.East.length c_p0_edges_East)), (24, (iv p2)), (26, (iv p1.East))] [.cell ⟨g_p0, 4, none⟩ (.slice A_p0_edges_East p0.edges.East.length c_p0_edges_East)] [2] [(18, ⟨g1336, 18, none⟩, (iv p1.East))] (fun fb => by kernel_rfl) rfl ⟨blk_cell (hS1375.rd 0).1 4 rfl, trivial⟩ rfl ?_
  obtain ⟨t1385, ht1386, hx1383⟩ := bind_some hx1383
  refine WL.call (some 27) 68 #[(.slice A_p0_edges_East p0.edges.East.length c_p0_edges_East), (iv p2), (iv p1.East)] (fun fb => by kernel_rfl) (fill_at_calls p0.edges.East p2 p1.East A_p0_edges_East c_p0_edges_East t1385 _ (hS1375.rd 4) ht1386) (fun v w1387 hR1388 => ?_)
  obtain ⟨rfl, hk_⟩ := hR1388
  have hS1389 := hS1375.keepN hk_
  refine ⟨trivial, ?_⟩
  refine seg 22 [] [0, 2, 4, 29] [(0, (.pointer (some ⟨g_p0, 0, none⟩))), (2, (iv p2)), (4, (pt g1336)), (29, (.bool (!t1385)))] [] (fun fb => by kernel_rfl) rfl trivial ?_
  injection hx1383 with hx1383
  exact WL.to K (!t1385) [0, 2, 4, 29] rfl ⟨⟨(hS1389.subR [0, 1, 2, 3, 4, 5, 6, 7]).sub [0] (by decide), hx1383.symm⟩, trivial⟩
 rintro y1390 w1392 ⟨⟨hS1393, hq1391⟩, hF1394⟩
 subst hq1391
 refine WL.done rfl ?_
 refine WX.next ?_
 rcases br_some hf with ⟨h1395, hf⟩ | ⟨h1395, hf⟩
 ·refine WC.condT2 (fun fb => by kernel_rfl) h1395 ?_
  refine WC.seq ?_
  refine WC.region ?_
  refine seg 1 [] [6] [(6, (.bool false))] [] (fun fb => by kernel_rfl) rfl trivial ?_
  refine WL.done rfl ?_
  refine WX.next ?_
  refine WC.ret ?_
  injection hf with hf
  subst hf
  exact WX.thenR (WX.ret_ [] (.bool false) [] (fun fb => by kernel_rfl) trivial ⟨_, rfl, rfl, hS1393.keep⟩)
 refine WC.condF2 (fun fb => by kernel_rfl) h1395 ?_
 refine WC.skip ?_
 refine WX.next ?_
 refine WC.seq ?_
 refine WC.seq ?_
 refine WC.region ?_
 refine seg 5 [.v (iv p0.width)] [0, 2, 4, 33, 34] [(0, (.pointer (some ⟨g_p0, 0, none⟩))), (2, (iv p2)), (4, (pt g1336)), (33, (iv p0.width)), (34, (iv 0))] [.cell ⟨g_p0, 1, none⟩ (iv p0.width)] (fun fb => by kernel_rfl) rfl ⟨blk_cell (hS1393.rd 0).1 1 rfl, trivial⟩ ?_
 refine WL.done rfl ?_
 refine WX.next ?_
 obtain ⟨x1932, hx1933, hf⟩ := bind_some hf
 refine WC.cutN (T := Unit) (fun t => []) (fun t w1 => St NoS w w1 [blk g_p0 (.cells #[(.slice A_p0_rows p0.rows.length c_p0_rows), (iv p0.width), (iv p0.height), (.slice A_p0_edges_North p0.edges.North.length c_p0_edges_North), (.slice A_p0_edges_East p0.edges.East.length c_p0_edges_East), (.slice A_p0_edges_South p0.edges.South.length c_p0_edges_South), (.slice A_p0_edges_West p0.edges.West.length c_p0_edges_West)] 84 (0, 0)), rowR encN_Row A_p0_rows c_p0_rows (tag H_p0_rows p0.rows), nestO subN_Row H_p0_rows p0.rows, rowR encInt A_p0_edges_North c_p0_edges_North p0.edges.North, rowR encInt A_p0_edges_East c_p0_edges_East p0.edges.East, rowR encInt A_p0_edges_South c_p0_edges_South p0.edges.South, rowR encInt A_p0_edges_West c_p0_edges_West p0.edges.West, rowR encInt A_p1_Cells c_p1_Cells p1.Cells] [] ∧ x1932 = .inr t) (fun Kx1932 => ?_) ?_
 ·
  refine WC.block ?_
  refine WC.loop (T := Int) (fun t => [(0, (.pointer (some ⟨g_p0, 0, none⟩))), (2, (iv p2)), (4, (pt g1336)), (33, (iv p0.width)), (34, (iv t))]) (fun n t w1 => St NoS w w1 [blk g_p0 (.cells #[(.slice A_p0_rows p0.rows.length c_p0_rows), (iv p0.width), (iv p0.height), (.slice A_p0_edges_North p0.edges.North.length c_p0_edges_North), (.slice A_p0_edges_East p0.edges.East.length c_p0_edges_East), (.slice A_p0_edges_South p0.edges.South.length c_p0_edges_South), (.slice A_p0_edges_West p0.edges.West.length c_p0_edges_West)] 84 (0, 0)), rowR encN_Row A_p0_rows c_p0_rows (tag H_p0_rows p0.rows), nestO subN_Row H_p0_rows p0.rows, rowR encInt A_p0_edges_North c_p0_edges_North p0.edges.North, rowR encInt A_p0_edges_East c_p0_edges_East p0.edges.East, rowR encInt A_p0_edges_South c_p0_edges_South p0.edges.South, rowR encInt A_p0_edges_West c_p0_edges_West p0.edges.West, rowR encInt A_p1_Cells c_p1_Cells p1.Cells] [blk g1336 (.cells #[(.slice A_p1_Cells p1.Cells.length c_p1_Cells), (iv p1.South.e0), (iv p1.South.e1), (iv p1.South.e2), (iv p1.South.e3), (iv p1.South.e4), (iv p1.South.e5), (iv p1.South.e6), (iv p1.South.e7), (iv p1.North.e0), (iv p1.North.e1), (iv p1.North.e2), (iv p1.North.e3), (iv p1.North.e4), (iv p1.North.e5), (iv p1.North.e6), (iv p1.North.e7), (iv p1.West), (iv p1.East)] 88 (0, 0))] ∧ fill_job_allows.l0 n t p0 p1 p2 = some x1932) k 0 [0, 2, 4, 33, 34] rfl ⟨(hS1393.subR [0, 1, 2, 3, 4, 5, 6, 7]).sub [0] (by decide), hx1933⟩ ?_
  rintro k1934 x1931 w1935 ⟨hS1936, hl1937⟩
  cases k1934 with
  | zero => rw [fill_job_allows.l0] at hl1937; cases hl1937
  | succ k1934 =>
   rw [fill_job_allows.l0] at hl1937
   refine WC.seq ?_
   refine WC.region ?_
   refine seg 1 [] [0, 2, 4, 33, 34, 35] [(0, (.pointer (some ⟨g_p0, 0, none⟩))), (2, (iv p2)), (4, (pt g1336)), (33, (iv p0.width)), (34, (iv x1931)), (35, (.bool (decide (x1931 < p0.width))))] [] (fun fb => by kernel_rfl) rfl trivial ?_
   refine WL.done rfl ?_
   refine WX.next ?_
   refine WC.seq ?_
   rcases br_some hl1937 with ⟨h1938, hl1937⟩ | ⟨h1938, hl1937⟩
   ·refine WC.condT2 (fun fb => by kernel_rfl) h1938 ?_
    refine WC.skip ?_
    refine WX.next ?_
    refine WC.seq ?_
    refine WC.block ?_
    refine WC.seq ?_
    refine WC.region ?_
    refine seg 2 [] [0, 2, 4, 7, 33, 34] [(0, (.pointer (some ⟨g_p0, 0, none⟩))), (2, (iv p2)), (4, (pt g1336)), (7, (iv x1931)), (33, (iv p0.width)), (34, (iv x1931))] [] (fun fb => by kernel_rfl) rfl trivial ?_
    refine WL.done rfl ?_
    refine WX.next ?_
    refine WC.seq ?_
    obtain ⟨x2074, hx2075, hl1937⟩ := bind_some hl1937
    refine WC.cutN (T := Bool) (fun t => [(0, (.pointer (some ⟨g_p0, 0, none⟩))), (2, (iv p2)), (4, (pt g1336)), (33, (iv p0.width)), (34, (iv x1931)), (75, (.bool t))]) (fun t w1 => St NoS w w1 [blk g_p0 (.cells #[(.slice A_p0_rows p0.rows.length c_p0_rows), (iv p0.width), (iv p0.height), (.slice A_p0_edges_North p0.edges.North.length c_p0_edges_North), (.slice A_p0_edges_East p0.edges.East.length c_p0_edges_East), (.slice A_p0_edges_South p0.edges.South.length c_p0_edges_South), (.slice A_p0_edges_West p0.edges.West.length c_p0_edges_West)] 84 (0, 0)), rowR encN_Row A_p0_rows c_p0_rows (tag H_p0_rows p0.rows), nestO subN_Row H_p0_rows p0.rows, rowR encInt A_p0_edges_North c_p0_edges_North p0.edges.North, rowR encInt A_p0_edges_East c_p0_edges_East p0.edges.East, rowR encInt A_p0_edges_South c_p0_edges_South p0.edges.South, rowR encInt A_p0_edges_West c_p0_edges_West p0.edges.West, rowR encInt A_p1_Cells c_p1_Cells p1.Cells] [blk g1336 (.cells #[(.slice A_p1_Cells p1.Cells.length c_p1_Cells), (iv p1.South.e0), (iv p1.South.e1), (iv p1.South.e2), (iv p1.South.e3), (iv p1.South.e4), (iv p1.South.e5), (iv p1.South.e6), (iv p1.South.e7), (iv p1.North.e0), (iv p1.North.e1), (iv p1.North.e2), (iv p1.North.e3), (iv p1.North.e4), (iv p1.North.e5), (iv p1.North.e6), (iv p1.North.e7), (iv p1.West), (iv p1.East)] 88 (0, 0))] ∧ x2074 = t) (fun Kx2074 => ?_) ?_
    ·
     rcases br_some hx2075 with ⟨h2076, hx2075⟩ | ⟨h2076, hx2075⟩
     ·
      rcases br_some hx2075 with ⟨h2083, hx2075⟩ | ⟨h2083, hx2075⟩
      ·
       obtain ⟨h2112, hx2075⟩ := as_some hx2075
       refine WC.regionD ([(7, ⟨g_p0, 5, none⟩, (.slice A_p0_edges_South p0.edges.South.length c_p0_edges_South)), (12, (flatA ⟨g1336, 1, none⟩ (x1931.toNat * 1)), (iv (A8_Int.get p1.South x1931)))], [0, 1, 2, 3, 4, 5, 6, 7, 8, 9, 10, 11, 12, 14, 15, 16, 17, 18, 19, 20, 22, 23, 24, 25, 26, 27, 28, 30, 31, 32, 33, 36, 37, 38], [[], [0], [0, 1], [0, 1, 2], [0, 1, 2, 3], [0, 1, 2, 3, 4], [0, 1, 2, 3, 4, 5], [0, 1, 2, 3, 4, 5, 6], [0, 1, 2], [0, 1, 2], [0, 1, 2], [0, 1, 2, 9, 10], [0, 1, 2, 9, 10, 11], [0, 1, 2, 3, 4, 5, 6, 7, 8, 9, 10, 11, 12], [0, 1, 2, 3, 4, 5, 6, 7, 8, 9, 10, 11, 12, 13], [0, 1, 2, 3, 4, 5, 6, 7, 8, 9, 10, 11, 12, 13, 14], [0, 1, 2, 3, 4, 5, 6, 7, 8, 9, 10, 11, 12, 13, 14, 15], [0, 1, 2, 3, 4, 5, 6, 7, 8, 9, 10, 11, 12, 13, 14, 15, 16], [0, 1, 2, 3, 4, 5, 6, 7, 8, 9, 10, 11, 12, 13, 14, 15, 16], [0, 1, 2, 3, 4, 5, 6, 7, 8, 9, 10, 11, 12, 13, 14, 15, 16, 18], [0, 1, 2, 3, 4, 5, 6, 7, 8, 9, 10, 11, 12, 13, 14, 15, 16, 18, 19], [0, 1, 2, 3, 4, 5, 6, 7, 8, 9, 10, 11, 12, 13, 14, 15, 16, 18, 19, 20], [0, 1, 2, 3, 4, 5, 6, 7, 8, 9, 10, 11, 12, 13, 14, 15, 16, 18, 19, 20, 21], [0, 1, 2, 3, 4, 5, 6, 7, 8, 9, 10, 11, 12, 13, 14, 15, 16, 17, 18, 19, 20, 21, 22], [0, 1, 2, 3, 4, 5, 6, 7, 8, 9, 10, 11, 12, 13, 14, 15, 16, 17, 18, 19, 20, 21, 22, 23], [0, 1, 2, 3, 4, 5, 6, 7, 8, 9, 10, 11, 12, 13, 14, 15, 16, 17, 18, 19, 20, 21, 22, 23, 24], [0, 1, 2, 3, 4, 5, 6, 7, 8, 9, 10, 11, 12, 13, 14, 15, 16, 17, 18, 19, 20, 21, 22, 23, 24, 25], [0, 1, 2, 3, 4, 5, 6, 7, 8, 9, 10, 11, 12, 13, 14, 15, 16, 17, 18, 19, 20, 21, 22, 23, 24, 25, 26], [0, 1, 2, 3, 4, 5, 6, 7, 8, 9, 10, 11, 12, 13, 14, 15, 16, 17, 18, 19, 20, 21, 22, 23, 24, 25, 26, 27], [0, 1, 2, 3, 4, 5, 6, 7, 8, 9, 10, 11, 12, 13, 14, 15, 16, 17, 18, 19, 20, 21, 22, 23, 24, 25, 26, 27, 28], [0, 1, 2, 3, 4, 5, 6, 7, 8, 9, 10, 11, 12, 13, 14, 15, 16, 17, 18, 19, 20, 21, 22, 23, 24], [0, 1, 2, 3, 4, 5, 6, 7, 8, 9, 10, 11, 12, 13, 14, 15, 16, 17, 18, 19, 20, 21, 22, 23, 24], [0, 1, 2, 3, 4, 5, 6, 7, 8, 9, 10, 11, 12, 13, 14, 15, 16, 17, 18, 19, 20, 21, 22, 23, 24], [0, 1, 2, 3, 4, 5, 6, 7, 8, 9, 10, 11, 12, 13, 14, 15, 16, 17, 18, 19, 20, 21, 22, 23, 24, 31, 32], [0, 1, 2, 3, 4, 5, 6, 7, 8, 9, 10, 11, 12, 13, 14, 15, 16, 17, 18, 19, 20, 21, 22, 23, 24, 31, 32, 33], [0, 1, 2, 3, 4, 5, 6, 7, 8, 9, 10, 11, 12, 13, 14, 15, 16, 17, 18, 19, 20, 21, 22, 23, 24, 25, 26, 27, 28, 29, 30, 31, 32, 33, 34], [0, 1, 2, 3, 4, 5, 6, 7, 8, 9, 10, 11, 12, 13, 14, 15, 16, 17, 18, 19, 20, 21, 22, 23, 24, 25, 26, 27, 28, 29, 30, 31, 32, 33, 34, 35], [0, 1, 2, 3, 4, 5, 6, 7, 8, 9, 10, 11, 12, 13, 14, 15, 16, 17, 18, 19, 20, 21, 22, 23, 24, 25, 26, 27, 28, 29, 30, 31, 32, 33, 34, 35, 36], [0, 1, 2, 3, 4, 5, 6, 7, 8, 9, 10, 11, 12, 13, 14, 15, 16, 17, 18, 19, 20, 21, 22, 23, 24, 25, 26, 27, 28, 29, 30, 31, 32, 33, 34, 35, 36, 37]]) [[0, 1, 2, 3, 4, 5, 6, 7, 8, 9, 10, 11, 12, 13, 14, 15, 16, 17, 18, 19, 20, 21, 22, 23, 24, 25, 26, 27, 28, 30, 31, 32, 33, 29, 34, 35, 36, 37, 38], [0, 1, 2, 3, 4, 5, 6, 7, 8, 9, 10, 11, 12, 13, 14, 15, 16, 17, 18, 19, 20, 21, 22, 23, 24, 25, 26, 27, 28, 30, 31, 32, 33, 34, 29, 35, 36, 37, 38]] (by kernel_rfl) (by kernel_rfl) (NoPanic.seq (NoPanic.block (NoPanic.seq (NoPanic.seq (NoPanic.block (NoPanic.seq (NoPanic.body))))))) ?_
       have hS2110 := hS1936.drew
       revert hS2110
       generalize World.drew w1935 = w2109
       intro hS2110
       refine ⟨⟨blk_cell (hS2110.rd 0).1 5 rfl, hS2110.cell 0 rfl _ (cases8 (Q := fun z_ => (#[(.slice A_p1_Cells p1.Cells.length c_p1_Cells), (iv p1.South.e0), (iv p1.South.e1), (iv p1.South.e2), (iv p1.South.e3), (iv p1.South.e4), (iv p1.South.e5), (iv p1.South.e6), (iv p1.South.e7), (iv p1.North.e0), (iv p1.North.e1), (iv p1.North.e2), (iv p1.North.e3), (iv p1.North.e4), (iv p1.North.e5), (iv p1.North.e6), (iv p1.North.e7), (iv p1.West), (iv p1.East)] : Array Value)[1 + z_.toNat * 1]? = some (iv (A8_Int.get p1.South z_))) h2112 (by kernel_rfl) (by kernel_rfl) (by kernel_rfl) (by kernel_rfl) (by kernel_rfl) (by kernel_rfl) (by kernel_rfl) (by kernel_rfl)), trivial⟩, forallC ?_ (forallC ?_ (forallN))⟩
       ·
        refine seg 3 [] [0, 2, 4, 7, 33, 34, 39] [(0, (.pointer (some ⟨g_p0, 0, none⟩))), (2, (iv p2)), (4, (pt g1336)), (7, (iv x1931)), (33, (iv p0.width)), (34, (iv x1931)), (39, (.bool (p2 == 0)))] [] (fun fb => by kernel_rfl) rfl trivial ?_
        refine WL.setB 39 h2076 rfl ?_
        refine segF 13 [.v (.slice A_p0_edges_South p0.edges.South.length c_p0_edges_South), .v (iv (A8_Int.get p1.South x1931))] [0, 2, 4, 7, 33, 34, 39, 44, 45, 49] [(0, (.pointer (some ⟨g_p0, 0, none⟩))), (2, (iv p2)), (4, (pt g1336)), (7, (iv x1931)), (33, (iv p0.width)), (34, (iv x1931)), (39, (.bool true)), (44, (.slice A_p0_edges_South p0.edges.South.length c_p0_edges_South)), (45, (iv x1931)), (49, (iv (A8_Int.get p1.South x1931)))] [.idx (some ⟨0, 0, none⟩) x1931 8] [0, 1] [(7, ⟨g_p0, 5, none⟩, (.slice A_p0_edges_South p0.edges.South.length c_p0_edges_South)), (12, (flatA ⟨g1336, 1, none⟩ (x1931.toNat * 1)), (iv (A8_Int.get p1.South x1931)))] (fun fb => by kernel_rfl) rfl ⟨⟨h2112.1, h2112.2, rfl⟩, trivial⟩ rfl ?_
        obtain ⟨t2113, ht2114, hx2075⟩ := bind_some hx2075
        refine WL.call (some 50) 68 #[(.slice A_p0_edges_South p0.edges.South.length c_p0_edges_South), (iv x1931), (iv (A8_Int.get p1.South x1931))] (fun fb => by kernel_rfl) (fill_at_calls p0.edges.South x1931 (A8_Int.get p1.South x1931) A_p0_edges_South c_p0_edges_South t2113 _ (hS2110.rd 5) ht2114) (fun v w2115 hR2116 => ?_)
        obtain ⟨rfl, hk_⟩ := hR2116
        have hS2117 := hS2110.keepN hk_
        refine ⟨trivial, ?_⟩
        refine seg 17 [] [0, 2, 4, 7, 33, 34, 53] [(0, (.pointer (some ⟨g_p0, 0, none⟩))), (2, (iv p2)), (4, (pt g1336)), (7, (iv x1931)), (33, (iv p0.width)), (34, (iv x1931)), (53, (.bool (!t2113)))] [] (fun fb => by kernel_rfl) rfl trivial ?_
        obtain ⟨x2124, hx2125, hx2075⟩ := bind_some hx2075
        refine WL.cutW (T := Bool) 39 (fun t => [(0, (.pointer (some ⟨g_p0, 0, none⟩))), (2, (iv p2)), (4, (pt g1336)), (33, (iv p0.width)), (34, (iv x1931)), (75, (.bool t))]) (fun t w1 => (St NoS w w1 [blk g_p0 (.cells #[(.slice A_p0_rows p0.rows.length c_p0_rows), (iv p0.width), (iv p0.height), (.slice A_p0_edges_North p0.edges.North.length c_p0_edges_North), (.slice A_p0_edges_East p0.edges.East.length c_p0_edges_East), (.slice A_p0_edges_South p0.edges.South.length c_p0_edges_South), (.slice A_p0_edges_West p0.edges.West.length c_p0_edges_West)] 84 (0, 0)), rowR encN_Row A_p0_rows c_p0_rows (tag H_p0_rows p0.rows), nestO subN_Row H_p0_rows p0.rows, rowR encInt A_p0_edges_North c_p0_edges_North p0.edges.North, rowR encInt A_p0_edges_East c_p0_edges_East p0.edges.East, rowR encInt A_p0_edges_South c_p0_edges_South p0.edges.South, rowR encInt A_p0_edges_West c_p0_edges_West p0.edges.West, rowR encInt A_p1_Cells c_p1_Cells p1.Cells] [blk g1336 (.cells #[(.slice A_p1_Cells p1.Cells.length c_p1_Cells), (iv p1.South.e0), (iv p1.South.e1), (iv p1.South.e2), (iv p1.South.e3), (iv p1.South.e4), (iv p1.South.e5), (iv p1.South.e6), (iv p1.South.e7), (iv p1.North.e0), (iv p1.North.e1), (iv p1.North.e2), (iv p1.North.e3), (iv p1.North.e4), (iv p1.North.e5), (iv p1.North.e6), (iv p1.North.e7), (iv p1.West), (iv p1.East)] 88 (0, 0))] ∧ x2124 = t) ∧ CellsOK [] w1) (fun K => ?_) ?_
        ·
         rcases br_some hx2125 with ⟨h2126, hx2125⟩ | ⟨h2126, hx2125⟩
         ·
          refine WL.setB 53 h2126 rfl ?_
          refine seg 39 [] [0, 2, 4, 33, 34, 75] [(0, (.pointer (some ⟨g_p0, 0, none⟩))), (2, (iv p2)), (4, (pt g1336)), (33, (iv p0.width)), (34, (iv x1931)), (75, (.bool true))] [] (fun fb => by kernel_rfl) rfl trivial ?_
          injection hx2125 with hx2125
          exact WL.to K true [0, 2, 4, 33, 34, 75] rfl ⟨⟨(hS2117.subR [0, 1, 2, 3, 4, 5, 6, 7]).sub [0] (by decide), hx2125.symm⟩, trivial⟩
         refine WL.setB 53 h2126 rfl ?_
         refine seg 25 [.v (iv p0.height)] [0, 2, 4, 7, 33, 34, 53, 61] [(0, (.pointer (some ⟨g_p0, 0, none⟩))), (2, (iv p2)), (4, (pt g1336)), (7, (iv x1931)), (33, (iv p0.width)), (34, (iv x1931)), (53, (.bool false)), (61, (.bool (p2 == (w64 (p0.height - 1)))))] [.cell ⟨g_p0, 2, none⟩ (iv p0.height)] (fun fb => by kernel_rfl) rfl ⟨blk_cell (hS2117.rd 0).1 2 rfl, trivial⟩ ?_
         refine WL.setB 61 h2083 rfl ?_
         refine seg 35 [.v (.slice A_p0_edges_North p0.edges.North.length c_p0_edges_North), .v (iv (A8_Int.get p1.North x1931))] [0, 2, 4, 33, 34, 53, 61, 66, 67, 71] [(0, (.pointer (some ⟨g_p0, 0, none⟩))), (2, (iv p2)), (4, (pt g1336)), (33, (iv p0.width)), (34, (iv x1931)), (53, (.bool false)), (61, (.bool true)), (66, (.slice A_p0_edges_North p0.edges.North.length c_p0_edges_North)), (67, (iv x1931)), (71, (iv (A8_Int.get p1.North x1931)))] [.idx (some ⟨0, 0, none⟩) x1931 8, .cell ⟨g_p0, 3, none⟩ (.slice A_p0_edges_North p0.edges.North.length c_p0_edges_North), .cell (flatA ⟨g1336, 9, none⟩ (x1931.toNat * 1)) (iv (A8_Int.get p1.North x1931))] (fun fb => by kernel_rfl) rfl ⟨⟨h2112.1, h2112.2, rfl⟩, blk_cell (hS2117.rd 0).1 3 rfl, hS2117.cell 0 rfl _ (cases8 (Q := fun z_ => (#[(.slice A_p1_Cells p1.Cells.length c_p1_Cells), (iv p1.South.e0), (iv p1.South.e1), (iv p1.South.e2), (iv p1.South.e3), (iv p1.South.e4), (iv p1.South.e5), (iv p1.South.e6), (iv p1.South.e7), (iv p1.North.e0), (iv p1.North.e1), (iv p1.North.e2), (iv p1.North.e3), (iv p1.North.e4), (iv p1.North.e5), (iv p1.North.e6), (iv p1.North.e7), (iv p1.West), (iv p1.East)] : Array Value)[9 + z_.toNat * 1]? = some (iv (A8_Int.get p1.North z_))) h2112 (by kernel_rfl) (by kernel_rfl) (by kernel_rfl) (by kernel_rfl) (by kernel_rfl) (by kernel_rfl) (by kernel_rfl) (by kernel_rfl)), trivial⟩ ?_
         obtain ⟨t2127, ht2128, hx2125⟩ := bind_some hx2125
         refine WL.call (some 72) 68 #[(.slice A_p0_edges_North p0.edges.North.length c_p0_edges_North), (iv x1931), (iv (A8_Int.get p1.North x1931))] (fun fb => by kernel_rfl) (fill_at_calls p0.edges.North x1931 (A8_Int.get p1.North x1931) A_p0_edges_North c_p0_edges_North t2127 _ (hS2117.rd 3) ht2128) (fun v w2129 hR2130 => ?_)
         obtain ⟨rfl, hk_⟩ := hR2130
         have hS2131 := hS2117.keepN hk_
         refine ⟨trivial, ?_⟩
         refine seg 39 [] [0, 2, 4, 33, 34, 75] [(0, (.pointer (some ⟨g_p0, 0, none⟩))), (2, (iv p2)), (4, (pt g1336)), (33, (iv p0.width)), (34, (iv x1931)), (75, (.bool (!t2127)))] [] (fun fb => by kernel_rfl) rfl trivial ?_
         injection hx2125 with hx2125
         exact WL.to K (!t2127) [0, 2, 4, 33, 34, 75] rfl ⟨⟨(hS2131.subR [0, 1, 2, 3, 4, 5, 6, 7]).sub [0] (by decide), hx2125.symm⟩, trivial⟩
        rintro y2132 w2134 ⟨⟨hS2135, hq2133⟩, hF2136⟩
        subst hq2133
        refine WL.done rfl ?_
        injection hx2075 with hx2075
        exact WX.to Kx2074 x2124 [0, 2, 4, 33, 34, 75] rfl ⟨(hS2135.subR [0, 1, 2, 3, 4, 5, 6, 7]).sub [0] (by decide), hx2075.symm⟩
       refine seg 3 [] [0, 2, 4, 7, 33, 34, 39] [(0, (.pointer (some ⟨g_p0, 0, none⟩))), (2, (iv p2)), (4, (pt g1336)), (7, (iv x1931)), (33, (iv p0.width)), (34, (iv x1931)), (39, (.bool (p2 == 0)))] [] (fun fb => by kernel_rfl) rfl trivial ?_
       refine WL.setB 39 h2076 rfl ?_
       refine segF 13 [.v (.slice A_p0_edges_South p0.edges.South.length c_p0_edges_South), .v (iv (A8_Int.get p1.South x1931))] [0, 2, 4, 7, 33, 34, 39, 44, 45, 49] [(0, (.pointer (some ⟨g_p0, 0, none⟩))), (2, (iv p2)), (4, (pt g1336)), (7, (iv x1931)), (33, (iv p0.width)), (34, (iv x1931)), (39, (.bool true)), (44, (.slice A_p0_edges_South p0.edges.South.length c_p0_edges_South)), (45, (iv x1931)), (49, (iv (A8_Int.get p1.South x1931)))] [.idx (some ⟨0, 0, none⟩) x1931 8] [0, 1] [(7, ⟨g_p0, 5, none⟩, (.slice A_p0_edges_South p0.edges.South.length c_p0_edges_South)), (12, (flatA ⟨g1336, 1, none⟩ (x1931.toNat * 1)), (iv (A8_Int.get p1.South x1931)))] (fun fb => by kernel_rfl) rfl ⟨⟨h2112.1, h2112.2, rfl⟩, trivial⟩ rfl ?_
       obtain ⟨t2137, ht2138, hx2075⟩ := bind_some hx2075
       refine WL.call (some 50) 68 #[(.slice A_p0_edges_South p0.edges.South.length c_p0_edges_South), (iv x1931), (iv (A8_Int.get p1.South x1931))] (fun fb => by kernel_rfl) (fill_at_calls p0.edges.South x1931 (A8_Int.get p1.South x1931) A_p0_edges_South c_p0_edges_South t2137 _ (hS2110.rd 5) ht2138) (fun v w2139 hR2140 => ?_)
       obtain ⟨rfl, hk_⟩ := hR2140
       have hS2141 := hS2110.keepN hk_
       refine ⟨trivial, ?_⟩
       refine seg 17 [] [0, 2, 4, 7, 33, 34, 53] [(0, (.pointer (some ⟨g_p0, 0, none⟩))), (2, (iv p2)), (4, (pt g1336)), (7, (iv x1931)), (33, (iv p0.width)), (34, (iv x1931)), (53, (.bool (!t2137)))] [] (fun fb => by kernel_rfl) rfl trivial ?_
       obtain ⟨x2148, hx2149, hx2075⟩ := bind_some hx2075
       refine WL.cutW (T := Bool) 39 (fun t => [(0, (.pointer (some ⟨g_p0, 0, none⟩))), (2, (iv p2)), (4, (pt g1336)), (33, (iv p0.width)), (34, (iv x1931)), (75, (.bool t))]) (fun t w1 => (St NoS w w1 [blk g_p0 (.cells #[(.slice A_p0_rows p0.rows.length c_p0_rows), (iv p0.width), (iv p0.height), (.slice A_p0_edges_North p0.edges.North.length c_p0_edges_North), (.slice A_p0_edges_East p0.edges.East.length c_p0_edges_East), (.slice A_p0_edges_South p0.edges.South.length c_p0_edges_South), (.slice A_p0_edges_West p0.edges.West.length c_p0_edges_West)] 84 (0, 0)), rowR encN_Row A_p0_rows c_p0_rows (tag H_p0_rows p0.rows), nestO subN_Row H_p0_rows p0.rows, rowR encInt A_p0_edges_North c_p0_edges_North p0.edges.North, rowR encInt A_p0_edges_East c_p0_edges_East p0.edges.East, rowR encInt A_p0_edges_South c_p0_edges_South p0.edges.South, rowR encInt A_p0_edges_West c_p0_edges_West p0.edges.West, rowR encInt A_p1_Cells c_p1_Cells p1.Cells] [blk g1336 (.cells #[(.slice A_p1_Cells p1.Cells.length c_p1_Cells), (iv p1.South.e0), (iv p1.South.e1), (iv p1.South.e2), (iv p1.South.e3), (iv p1.South.e4), (iv p1.South.e5), (iv p1.South.e6), (iv p1.South.e7), (iv p1.North.e0), (iv p1.North.e1), (iv p1.North.e2), (iv p1.North.e3), (iv p1.North.e4), (iv p1.North.e5), (iv p1.North.e6), (iv p1.North.e7), (iv p1.West), (iv p1.East)] 88 (0, 0))] ∧ x2148 = t) ∧ CellsOK [] w1) (fun K => ?_) ?_
       ·
        rcases br_some hx2149 with ⟨h2150, hx2149⟩ | ⟨h2150, hx2149⟩
        ·
         refine WL.setB 53 h2150 rfl ?_
         refine seg 39 [] [0, 2, 4, 33, 34, 75] [(0, (.pointer (some ⟨g_p0, 0, none⟩))), (2, (iv p2)), (4, (pt g1336)), (33, (iv p0.width)), (34, (iv x1931)), (75, (.bool true))] [] (fun fb => by kernel_rfl) rfl trivial ?_
         injection hx2149 with hx2149
         exact WL.to K true [0, 2, 4, 33, 34, 75] rfl ⟨⟨(hS2141.subR [0, 1, 2, 3, 4, 5, 6, 7]).sub [0] (by decide), hx2149.symm⟩, trivial⟩
        refine WL.setB 53 h2150 rfl ?_
        refine seg 25 [.v (iv p0.height)] [0, 2, 4, 7, 33, 34, 53, 61] [(0, (.pointer (some ⟨g_p0, 0, none⟩))), (2, (iv p2)), (4, (pt g1336)), (7, (iv x1931)), (33, (iv p0.width)), (34, (iv x1931)), (53, (.bool false)), (61, (.bool (p2 == (w64 (p0.height - 1)))))] [.cell ⟨g_p0, 2, none⟩ (iv p0.height)] (fun fb => by kernel_rfl) rfl ⟨blk_cell (hS2141.rd 0).1 2 rfl, trivial⟩ ?_
        refine WL.setB 61 h2083 rfl ?_
        refine seg 35 [.v (iv (A8_Int.get p1.North x1931)), .v (.slice A_p0_edges_North p0.edges.North.length c_p0_edges_North)] [0, 2, 4, 33, 34, 53, 61, 66, 67, 71] [(0, (.pointer (some ⟨g_p0, 0, none⟩))), (2, (iv p2)), (4, (pt g1336)), (33, (iv p0.width)), (34, (iv x1931)), (53, (.bool false)), (61, (.bool true)), (66, (.slice A_p0_edges_North p0.edges.North.length c_p0_edges_North)), (67, (iv x1931)), (71, (iv (A8_Int.get p1.North x1931)))] [.idx (some ⟨0, 0, none⟩) x1931 8, .cell (flatA ⟨g1336, 9, none⟩ (x1931.toNat * 1)) (iv (A8_Int.get p1.North x1931)), .cell ⟨g_p0, 3, none⟩ (.slice A_p0_edges_North p0.edges.North.length c_p0_edges_North)] (fun fb => by kernel_rfl) rfl ⟨⟨h2112.1, h2112.2, rfl⟩, hS2141.cell 0 rfl _ (cases8 (Q := fun z_ => (#[(.slice A_p1_Cells p1.Cells.length c_p1_Cells), (iv p1.South.e0), (iv p1.South.e1), (iv p1.South.e2), (iv p1.South.e3), (iv p1.South.e4), (iv p1.South.e5), (iv p1.South.e6), (iv p1.South.e7), (iv p1.North.e0), (iv p1.North.e1), (iv p1.North.e2), (iv p1.North.e3), (iv p1.North.e4), (iv p1.North.e5), (iv p1.North.e6), (iv p1.North.e7), (iv p1.West), (iv p1.East)] : Array Value)[9 + z_.toNat * 1]? = some (iv (A8_Int.get p1.North z_))) h2112 (by kernel_rfl) (by kernel_rfl) (by kernel_rfl) (by kernel_rfl) (by kernel_rfl) (by kernel_rfl) (by kernel_rfl) (by kernel_rfl)), blk_cell (hS2141.rd 0).1 3 rfl, trivial⟩ ?_
        obtain ⟨t2151, ht2152, hx2149⟩ := bind_some hx2149
        refine WL.call (some 72) 68 #[(.slice A_p0_edges_North p0.edges.North.length c_p0_edges_North), (iv x1931), (iv (A8_Int.get p1.North x1931))] (fun fb => by kernel_rfl) (fill_at_calls p0.edges.North x1931 (A8_Int.get p1.North x1931) A_p0_edges_North c_p0_edges_North t2151 _ (hS2141.rd 3) ht2152) (fun v w2153 hR2154 => ?_)
        obtain ⟨rfl, hk_⟩ := hR2154
        have hS2155 := hS2141.keepN hk_
        refine ⟨trivial, ?_⟩
        refine seg 39 [] [0, 2, 4, 33, 34, 75] [(0, (.pointer (some ⟨g_p0, 0, none⟩))), (2, (iv p2)), (4, (pt g1336)), (33, (iv p0.width)), (34, (iv x1931)), (75, (.bool (!t2151)))] [] (fun fb => by kernel_rfl) rfl trivial ?_
        injection hx2149 with hx2149
        exact WL.to K (!t2151) [0, 2, 4, 33, 34, 75] rfl ⟨⟨(hS2155.subR [0, 1, 2, 3, 4, 5, 6, 7]).sub [0] (by decide), hx2149.symm⟩, trivial⟩
       rintro y2156 w2158 ⟨⟨hS2159, hq2157⟩, hF2160⟩
       subst hq2157
       refine WL.done rfl ?_
       injection hx2075 with hx2075
       exact WX.to Kx2074 x2148 [0, 2, 4, 33, 34, 75] rfl ⟨(hS2159.subR [0, 1, 2, 3, 4, 5, 6, 7]).sub [0] (by decide), hx2075.symm⟩
      obtain ⟨h2172, hx2075⟩ := as_some hx2075
      refine WC.regionD ([(7, ⟨g_p0, 5, none⟩, (.slice A_p0_edges_South p0.edges.South.length c_p0_edges_South)), (12, (flatA ⟨g1336, 1, none⟩ (x1931.toNat * 1)), (iv (A8_Int.get p1.South x1931)))], [0, 1, 2, 3, 4, 5, 6, 7, 8, 9, 10, 11, 12, 14, 15, 16, 17, 18, 19, 20, 22, 23, 24, 25, 26, 27, 28, 30, 31, 32, 33, 36, 37, 38], [[], [0], [0, 1], [0, 1, 2], [0, 1, 2, 3], [0, 1, 2, 3, 4], [0, 1, 2, 3, 4, 5], [0, 1, 2, 3, 4, 5, 6], [0, 1, 2], [0, 1, 2], [0, 1, 2], [0, 1, 2, 9, 10], [0, 1, 2, 9, 10, 11], [0, 1, 2, 3, 4, 5, 6, 7, 8, 9, 10, 11, 12], [0, 1, 2, 3, 4, 5, 6, 7, 8, 9, 10, 11, 12, 13], [0, 1, 2, 3, 4, 5, 6, 7, 8, 9, 10, 11, 12, 13, 14], [0, 1, 2, 3, 4, 5, 6, 7, 8, 9, 10, 11, 12, 13, 14, 15], [0, 1, 2, 3, 4, 5, 6, 7, 8, 9, 10, 11, 12, 13, 14, 15, 16], [0, 1, 2, 3, 4, 5, 6, 7, 8, 9, 10, 11, 12, 13, 14, 15, 16], [0, 1, 2, 3, 4, 5, 6, 7, 8, 9, 10, 11, 12, 13, 14, 15, 16, 18], [0, 1, 2, 3, 4, 5, 6, 7, 8, 9, 10, 11, 12, 13, 14, 15, 16, 18, 19], [0, 1, 2, 3, 4, 5, 6, 7, 8, 9, 10, 11, 12, 13, 14, 15, 16, 18, 19, 20], [0, 1, 2, 3, 4, 5, 6, 7, 8, 9, 10, 11, 12, 13, 14, 15, 16, 18, 19, 20, 21], [0, 1, 2, 3, 4, 5, 6, 7, 8, 9, 10, 11, 12, 13, 14, 15, 16, 17, 18, 19, 20, 21, 22], [0, 1, 2, 3, 4, 5, 6, 7, 8, 9, 10, 11, 12, 13, 14, 15, 16, 17, 18, 19, 20, 21, 22, 23], [0, 1, 2, 3, 4, 5, 6, 7, 8, 9, 10, 11, 12, 13, 14, 15, 16, 17, 18, 19, 20, 21, 22, 23, 24], [0, 1, 2, 3, 4, 5, 6, 7, 8, 9, 10, 11, 12, 13, 14, 15, 16, 17, 18, 19, 20, 21, 22, 23, 24, 25], [0, 1, 2, 3, 4, 5, 6, 7, 8, 9, 10, 11, 12, 13, 14, 15, 16, 17, 18, 19, 20, 21, 22, 23, 24, 25, 26], [0, 1, 2, 3, 4, 5, 6, 7, 8, 9, 10, 11, 12, 13, 14, 15, 16, 17, 18, 19, 20, 21, 22, 23, 24, 25, 26, 27], [0, 1, 2, 3, 4, 5, 6, 7, 8, 9, 10, 11, 12, 13, 14, 15, 16, 17, 18, 19, 20, 21, 22, 23, 24, 25, 26, 27, 28], [0, 1, 2, 3, 4, 5, 6, 7, 8, 9, 10, 11, 12, 13, 14, 15, 16, 17, 18, 19, 20, 21, 22, 23, 24], [0, 1, 2, 3, 4, 5, 6, 7, 8, 9, 10, 11, 12, 13, 14, 15, 16, 17, 18, 19, 20, 21, 22, 23, 24], [0, 1, 2, 3, 4, 5, 6, 7, 8, 9, 10, 11, 12, 13, 14, 15, 16, 17, 18, 19, 20, 21, 22, 23, 24], [0, 1, 2, 3, 4, 5, 6, 7, 8, 9, 10, 11, 12, 13, 14, 15, 16, 17, 18, 19, 20, 21, 22, 23, 24, 31, 32], [0, 1, 2, 3, 4, 5, 6, 7, 8, 9, 10, 11, 12, 13, 14, 15, 16, 17, 18, 19, 20, 21, 22, 23, 24, 31, 32, 33], [0, 1, 2, 3, 4, 5, 6, 7, 8, 9, 10, 11, 12, 13, 14, 15, 16, 17, 18, 19, 20, 21, 22, 23, 24, 25, 26, 27, 28, 29, 30, 31, 32, 33, 34], [0, 1, 2, 3, 4, 5, 6, 7, 8, 9, 10, 11, 12, 13, 14, 15, 16, 17, 18, 19, 20, 21, 22, 23, 24, 25, 26, 27, 28, 29, 30, 31, 32, 33, 34, 35], [0, 1, 2, 3, 4, 5, 6, 7, 8, 9, 10, 11, 12, 13, 14, 15, 16, 17, 18, 19, 20, 21, 22, 23, 24, 25, 26, 27, 28, 29, 30, 31, 32, 33, 34, 35, 36], [0, 1, 2, 3, 4, 5, 6, 7, 8, 9, 10, 11, 12, 13, 14, 15, 16, 17, 18, 19, 20, 21, 22, 23, 24, 25, 26, 27, 28, 29, 30, 31, 32, 33, 34, 35, 36, 37]]) [[0, 1, 2, 3, 4, 5, 6, 7, 8, 9, 10, 11, 12, 13, 14, 15, 16, 17, 18, 19, 20, 21, 22, 23, 24, 25, 26, 27, 28, 30, 31, 32, 33, 29, 34, 35, 36, 37, 38], [0, 1, 2, 3, 4, 5, 6, 7, 8, 9, 10, 11, 12, 13, 14, 15, 16, 17, 18, 19, 20, 21, 22, 23, 24, 25, 26, 27, 28, 30, 31, 32, 33, 34, 29, 35, 36, 37, 38]] (by kernel_rfl) (by kernel_rfl) (NoPanic.seq (NoPanic.block (NoPanic.seq (NoPanic.seq (NoPanic.block (NoPanic.seq (NoPanic.body))))))) ?_
      have hS2170 := hS1936.drew
      revert hS2170
      generalize World.drew w1935 = w2169
      intro hS2170
      refine ⟨⟨blk_cell (hS2170.rd 0).1 5 rfl, hS2170.cell 0 rfl _ (cases8 (Q := fun z_ => (#[(.slice A_p1_Cells p1.Cells.length c_p1_Cells), (iv p1.South.e0), (iv p1.South.e1), (iv p1.South.e2), (iv p1.South.e3), (iv p1.South.e4), (iv p1.South.e5), (iv p1.South.e6), (iv p1.South.e7), (iv p1.North.e0), (iv p1.North.e1), (iv p1.North.e2), (iv p1.North.e3), (iv p1.North.e4), (iv p1.North.e5), (iv p1.North.e6), (iv p1.North.e7), (iv p1.West), (iv p1.East)] : Array Value)[1 + z_.toNat * 1]? = some (iv (A8_Int.get p1.South z_))) h2172 (by kernel_rfl) (by kernel_rfl) (by kernel_rfl) (by kernel_rfl) (by kernel_rfl) (by kernel_rfl) (by kernel_rfl) (by kernel_rfl)), trivial⟩, forallC ?_ (forallC ?_ (forallN))⟩
      ·
       refine seg 3 [] [0, 2, 4, 7, 33, 34, 39] [(0, (.pointer (some ⟨g_p0, 0, none⟩))), (2, (iv p2)), (4, (pt g1336)), (7, (iv x1931)), (33, (iv p0.width)), (34, (iv x1931)), (39, (.bool (p2 == 0)))] [] (fun fb => by kernel_rfl) rfl trivial ?_
       refine WL.setB 39 h2076 rfl ?_
       refine segF 13 [.v (.slice A_p0_edges_South p0.edges.South.length c_p0_edges_South), .v (iv (A8_Int.get p1.South x1931))] [0, 2, 4, 7, 33, 34, 39, 44, 45, 49] [(0, (.pointer (some ⟨g_p0, 0, none⟩))), (2, (iv p2)), (4, (pt g1336)), (7, (iv x1931)), (33, (iv p0.width)), (34, (iv x1931)), (39, (.bool true)), (44, (.slice A_p0_edges_South p0.edges.South.length c_p0_edges_South)), (45, (iv x1931)), (49, (iv (A8_Int.get p1.South x1931)))] [.idx (some ⟨0, 0, none⟩) x1931 8] [0, 1] [(7, ⟨g_p0, 5, none⟩, (.slice A_p0_edges_South p0.edges.South.length c_p0_edges_South)), (12, (flatA ⟨g1336, 1, none⟩ (x1931.toNat * 1)), (iv (A8_Int.get p1.South x1931)))] (fun fb => by kernel_rfl) rfl ⟨⟨h2172.1, h2172.2, rfl⟩, trivial⟩ rfl ?_
       obtain ⟨t2173, ht2174, hx2075⟩ := bind_some hx2075
       refine WL.call (some 50) 68 #[(.slice A_p0_edges_South p0.edges.South.length c_p0_edges_South), (iv x1931), (iv (A8_Int.get p1.South x1931))] (fun fb => by kernel_rfl) (fill_at_calls p0.edges.South x1931 (A8_Int.get p1.South x1931) A_p0_edges_South c_p0_edges_South t2173 _ (hS2170.rd 5) ht2174) (fun v w2175 hR2176 => ?_)
       obtain ⟨rfl, hk_⟩ := hR2176
       have hS2177 := hS2170.keepN hk_
       refine ⟨trivial, ?_⟩
       refine seg 17 [] [0, 2, 4, 7, 33, 34, 53] [(0, (.pointer (some ⟨g_p0, 0, none⟩))), (2, (iv p2)), (4, (pt g1336)), (7, (iv x1931)), (33, (iv p0.width)), (34, (iv x1931)), (53, (.bool (!t2173)))] [] (fun fb => by kernel_rfl) rfl trivial ?_
       refine WL.cutV (T := Bool) 39 (fun t => [(75, (.bool t)), (0, (.pointer (some ⟨g_p0, 0, none⟩))), (2, (iv p2)), (4, (pt g1336)), (33, (iv p0.width)), (34, (iv x1931))]) (fun t => (!t2173) = t) (fun K => ?_) ?_
       ·
        rcases Bool.eq_false_or_eq_true (!t2173) with h2178 | h2178
        ·
         refine WL.setB 53 h2178 rfl ?_
         refine seg 39 [] [0, 2, 4, 33, 34, 75] [(0, (.pointer (some ⟨g_p0, 0, none⟩))), (2, (iv p2)), (4, (pt g1336)), (33, (iv p0.width)), (34, (iv x1931)), (75, (.bool true))] [] (fun fb => by kernel_rfl) rfl trivial ?_
         exact WL.toV K true [75, 0, 2, 4, 33, 34] rfl (by first | (rw [h2178]; done) | (rw [h2178]; rfl))
        refine WL.setB 53 h2178 rfl ?_
        refine seg 25 [.v (iv p0.height)] [0, 2, 4, 7, 33, 34, 53, 61] [(0, (.pointer (some ⟨g_p0, 0, none⟩))), (2, (iv p2)), (4, (pt g1336)), (7, (iv x1931)), (33, (iv p0.width)), (34, (iv x1931)), (53, (.bool false)), (61, (.bool (p2 == (w64 (p0.height - 1)))))] [.cell ⟨g_p0, 2, none⟩ (iv p0.height)] (fun fb => by kernel_rfl) rfl ⟨blk_cell (hS2177.rd 0).1 2 rfl, trivial⟩ ?_
        refine WL.setB 61 h2083 rfl ?_
        refine seg 39 [] [0, 2, 4, 33, 34, 75] [(0, (.pointer (some ⟨g_p0, 0, none⟩))), (2, (iv p2)), (4, (pt g1336)), (33, (iv p0.width)), (34, (iv x1931)), (75, (.bool false))] [] (fun fb => by kernel_rfl) rfl trivial ?_
        exact WL.toV K false [75, 0, 2, 4, 33, 34] rfl (by first | (rw [h2178]; done) | (rw [h2178]; rfl))
       rintro b2179 rfl
       refine WL.done rfl ?_
       injection hx2075 with hx2075
       exact WX.to Kx2074 (!t2173) [0, 2, 4, 33, 34, 75] rfl ⟨(hS2177.subR [0, 1, 2, 3, 4, 5, 6, 7]).sub [0] (by decide), hx2075.symm⟩
      refine seg 3 [] [0, 2, 4, 7, 33, 34, 39] [(0, (.pointer (some ⟨g_p0, 0, none⟩))), (2, (iv p2)), (4, (pt g1336)), (7, (iv x1931)), (33, (iv p0.width)), (34, (iv x1931)), (39, (.bool (p2 == 0)))] [] (fun fb => by kernel_rfl) rfl trivial ?_
      refine WL.setB 39 h2076 rfl ?_
      refine segF 13 [.v (.slice A_p0_edges_South p0.edges.South.length c_p0_edges_South), .v (iv (A8_Int.get p1.South x1931))] [0, 2, 4, 7, 33, 34, 39, 44, 45, 49] [(0, (.pointer (some ⟨g_p0, 0, none⟩))), (2, (iv p2)), (4, (pt g1336)), (7, (iv x1931)), (33, (iv p0.width)), (34, (iv x1931)), (39, (.bool true)), (44, (.slice A_p0_edges_South p0.edges.South.length c_p0_edges_South)), (45, (iv x1931)), (49, (iv (A8_Int.get p1.South x1931)))] [.idx (some ⟨0, 0, none⟩) x1931 8] [0, 1] [(7, ⟨g_p0, 5, none⟩, (.slice A_p0_edges_South p0.edges.South.length c_p0_edges_South)), (12, (flatA ⟨g1336, 1, none⟩ (x1931.toNat * 1)), (iv (A8_Int.get p1.South x1931)))] (fun fb => by kernel_rfl) rfl ⟨⟨h2172.1, h2172.2, rfl⟩, trivial⟩ rfl ?_
      obtain ⟨t2180, ht2181, hx2075⟩ := bind_some hx2075
      refine WL.call (some 50) 68 #[(.slice A_p0_edges_South p0.edges.South.length c_p0_edges_South), (iv x1931), (iv (A8_Int.get p1.South x1931))] (fun fb => by kernel_rfl) (fill_at_calls p0.edges.South x1931 (A8_Int.get p1.South x1931) A_p0_edges_South c_p0_edges_South t2180 _ (hS2170.rd 5) ht2181) (fun v w2182 hR2183 => ?_)
      obtain ⟨rfl, hk_⟩ := hR2183
      have hS2184 := hS2170.keepN hk_
      refine ⟨trivial, ?_⟩
      refine seg 17 [] [0, 2, 4, 7, 33, 34, 53] [(0, (.pointer (some ⟨g_p0, 0, none⟩))), (2, (iv p2)), (4, (pt g1336)), (7, (iv x1931)), (33, (iv p0.width)), (34, (iv x1931)), (53, (.bool (!t2180)))] [] (fun fb => by kernel_rfl) rfl trivial ?_
      refine WL.cutV (T := Bool) 39 (fun t => [(75, (.bool t)), (0, (.pointer (some ⟨g_p0, 0, none⟩))), (2, (iv p2)), (4, (pt g1336)), (33, (iv p0.width)), (34, (iv x1931))]) (fun t => (!t2180) = t) (fun K => ?_) ?_
      ·
       rcases Bool.eq_false_or_eq_true (!t2180) with h2185 | h2185
       ·
        refine WL.setB 53 h2185 rfl ?_
        refine seg 39 [] [0, 2, 4, 33, 34, 75] [(0, (.pointer (some ⟨g_p0, 0, none⟩))), (2, (iv p2)), (4, (pt g1336)), (33, (iv p0.width)), (34, (iv x1931)), (75, (.bool true))] [] (fun fb => by kernel_rfl) rfl trivial ?_
        exact WL.toV K true [75, 0, 2, 4, 33, 34] rfl (by first | (rw [h2185]; done) | (rw [h2185]; rfl))
       refine WL.setB 53 h2185 rfl ?_
       refine seg 25 [.v (iv p0.height)] [0, 2, 4, 7, 33, 34, 53, 61] [(0, (.pointer (some ⟨g_p0, 0, none⟩))), (2, (iv p2)), (4, (pt g1336)), (7, (iv x1931)), (33, (iv p0.width)), (34, (iv x1931)), (53, (.bool false)), (61, (.bool (p2 == (w64 (p0.height - 1)))))] [.cell ⟨g_p0, 2, none⟩ (iv p0.height)] (fun fb => by kernel_rfl) rfl ⟨blk_cell (hS2184.rd 0).1 2 rfl, trivial⟩ ?_
       refine WL.setB 61 h2083 rfl ?_
       refine seg 39 [] [0, 2, 4, 33, 34, 75] [(0, (.pointer (some ⟨g_p0, 0, none⟩))), (2, (iv p2)), (4, (pt g1336)), (33, (iv p0.width)), (34, (iv x1931)), (75, (.bool false))] [] (fun fb => by kernel_rfl) rfl trivial ?_
       exact WL.toV K false [75, 0, 2, 4, 33, 34] rfl (by first | (rw [h2185]; done) | (rw [h2185]; rfl))
      rintro b2186 rfl
      refine WL.done rfl ?_
      injection hx2075 with hx2075
      exact WX.to Kx2074 (!t2180) [0, 2, 4, 33, 34, 75] rfl ⟨(hS2184.subR [0, 1, 2, 3, 4, 5, 6, 7]).sub [0] (by decide), hx2075.symm⟩
     rcases br_some hx2075 with ⟨h2187, hx2075⟩ | ⟨h2187, hx2075⟩
     ·
      refine WC.regionD ([], [0, 1, 2, 3, 4, 5, 6, 7, 8, 9, 10, 11, 12, 14, 15, 16, 17, 18, 19, 20, 22, 23, 24, 25, 26, 27, 28, 30, 31, 32, 33, 36, 37, 38], [[], [0], [0, 1], [0, 1, 2], [0, 1, 2, 3], [0, 1, 2, 3, 4], [0, 1, 2, 3, 4, 5], [0, 1, 2, 3, 4, 5, 6], [0, 1, 2], [0, 1, 2], [0, 1, 2], [0, 1, 2, 9, 10], [0, 1, 2, 9, 10, 11], [0, 1, 2, 3, 4, 5, 6, 7, 8, 9, 10, 11, 12], [0, 1, 2, 3, 4, 5, 6, 7, 8, 9, 10, 11, 12, 13], [0, 1, 2, 3, 4, 5, 6, 7, 8, 9, 10, 11, 12, 13, 14], [0, 1, 2, 3, 4, 5, 6, 7, 8, 9, 10, 11, 12, 13, 14, 15], [0, 1, 2, 3, 4, 5, 6, 7, 8, 9, 10, 11, 12, 13, 14, 15, 16], [0, 1, 2, 3, 4, 5, 6, 7, 8, 9, 10, 11, 12, 13, 14, 15, 16], [0, 1, 2, 3, 4, 5, 6, 7, 8, 9, 10, 11, 12, 13, 14, 15, 16, 18], [0, 1, 2, 3, 4, 5, 6, 7, 8, 9, 10, 11, 12, 13, 14, 15, 16, 18, 19], [0, 1, 2, 3, 4, 5, 6, 7, 8, 9, 10, 11, 12, 13, 14, 15, 16, 18, 19, 20], [0, 1, 2, 3, 4, 5, 6, 7, 8, 9, 10, 11, 12, 13, 14, 15, 16, 18, 19, 20, 21], [0, 1, 2, 3, 4, 5, 6, 7, 8, 9, 10, 11, 12, 13, 14, 15, 16, 17, 18, 19, 20, 21, 22], [0, 1, 2, 3, 4, 5, 6, 7, 8, 9, 10, 11, 12, 13, 14, 15, 16, 17, 18, 19, 20, 21, 22, 23], [0, 1, 2, 3, 4, 5, 6, 7, 8, 9, 10, 11, 12, 13, 14, 15, 16, 17, 18, 19, 20, 21, 22, 23, 24], [0, 1, 2, 3, 4, 5, 6, 7, 8, 9, 10, 11, 12, 13, 14, 15, 16, 17, 18, 19, 20, 21, 22, 23, 24, 25], [0, 1, 2, 3, 4, 5, 6, 7, 8, 9, 10, 11, 12, 13, 14, 15, 16, 17, 18, 19, 20, 21, 22, 23, 24, 25, 26], [0, 1, 2, 3, 4, 5, 6, 7, 8, 9, 10, 11, 12, 13, 14, 15, 16, 17, 18, 19, 20, 21, 22, 23, 24, 25, 26, 27], [0, 1, 2, 3, 4, 5, 6, 7, 8, 9, 10, 11, 12, 13, 14, 15, 16, 17, 18, 19, 20, 21, 22, 23, 24, 25, 26, 27, 28], [0, 1, 2, 3, 4, 5, 6, 7, 8, 9, 10, 11, 12, 13, 14, 15, 16, 17, 18, 19, 20, 21, 22, 23, 24], [0, 1, 2, 3, 4, 5, 6, 7, 8, 9, 10, 11, 12, 13, 14, 15, 16, 17, 18, 19, 20, 21, 22, 23, 24], [0, 1, 2, 3, 4, 5, 6, 7, 8, 9, 10, 11, 12, 13, 14, 15, 16, 17, 18, 19, 20, 21, 22, 23, 24], [0, 1, 2, 3, 4, 5, 6, 7, 8, 9, 10, 11, 12, 13, 14, 15, 16, 17, 18, 19, 20, 21, 22, 23, 24, 31, 32], [0, 1, 2, 3, 4, 5, 6, 7, 8, 9, 10, 11, 12, 13, 14, 15, 16, 17, 18, 19, 20, 21, 22, 23, 24, 31, 32, 33], [0, 1, 2, 3, 4, 5, 6, 7, 8, 9, 10, 11, 12, 13, 14, 15, 16, 17, 18, 19, 20, 21, 22, 23, 24, 25, 26, 27, 28, 29, 30, 31, 32, 33, 34], [0, 1, 2, 3, 4, 5, 6, 7, 8, 9, 10, 11, 12, 13, 14, 15, 16, 17, 18, 19, 20, 21, 22, 23, 24, 25, 26, 27, 28, 29, 30, 31, 32, 33, 34, 35], [0, 1, 2, 3, 4, 5, 6, 7, 8, 9, 10, 11, 12, 13, 14, 15, 16, 17, 18, 19, 20, 21, 22, 23, 24, 25, 26, 27, 28, 29, 30, 31, 32, 33, 34, 35, 36], [0, 1, 2, 3, 4, 5, 6, 7, 8, 9, 10, 11, 12, 13, 14, 15, 16, 17, 18, 19, 20, 21, 22, 23, 24, 25, 26, 27, 28, 29, 30, 31, 32, 33, 34, 35, 36, 37]]) [[0, 1, 2, 3, 4, 5, 6, 7, 8, 9, 10, 11, 12, 13, 14, 15, 16, 17, 18, 19, 20, 21, 22, 23, 24, 25, 26, 27, 28, 30, 31, 32, 33, 29, 34, 35, 36, 37, 38], [0, 1, 2, 3, 4, 5, 6, 7, 8, 9, 10, 11, 12, 13, 14, 15, 16, 17, 18, 19, 20, 21, 22, 23, 24, 25, 26, 27, 28, 30, 31, 32, 33, 34, 29, 35, 36, 37, 38]] (by kernel_rfl) (by kernel_rfl) (NoPanic.seq (NoPanic.block (NoPanic.seq (NoPanic.seq (NoPanic.block (NoPanic.seq (NoPanic.body))))))) ?_
      have hS2195 := hS1936.drew
      revert hS2195
      generalize World.drew w1935 = w2194
      intro hS2195
      refine ⟨trivial, forallC ?_ (forallC ?_ (forallN))⟩
      ·
       refine seg 3 [] [0, 2, 4, 7, 33, 34, 39] [(0, (.pointer (some ⟨g_p0, 0, none⟩))), (2, (iv p2)), (4, (pt g1336)), (7, (iv x1931)), (33, (iv p0.width)), (34, (iv x1931)), (39, (.bool (p2 == 0)))] [] (fun fb => by kernel_rfl) rfl trivial ?_
       refine WL.setB 39 h2076 rfl ?_
       refine seg 25 [.v (iv p0.height)] [0, 2, 4, 7, 33, 34, 53, 61] [(0, (.pointer (some ⟨g_p0, 0, none⟩))), (2, (iv p2)), (4, (pt g1336)), (7, (iv x1931)), (33, (iv p0.width)), (34, (iv x1931)), (53, (.bool false)), (61, (.bool (p2 == (w64 (p0.height - 1)))))] [.cell ⟨g_p0, 2, none⟩ (iv p0.height)] (fun fb => by kernel_rfl) rfl ⟨blk_cell (hS2195.rd 0).1 2 rfl, trivial⟩ ?_
       refine WL.setB 61 h2187 rfl ?_
       refine seg 32 [] [0, 2, 4, 33, 34, 53, 61, 65, 67, 68, 69] [(0, (.pointer (some ⟨g_p0, 0, none⟩))), (2, (iv p2)), (4, (pt g1336)), (33, (iv p0.width)), (34, (iv x1931)), (53, (.bool false)), (61, (.bool true)), (65, (.pointer (some ⟨g_p0, 3, none⟩))), (67, (iv x1931)), (68, (iv x1931)), (69, (.pointer (some ⟨g1336, 9, none⟩)))] [] (fun fb => by kernel_rfl) rfl trivial ?_
       obtain ⟨h2196, hx2075⟩ := as_some hx2075
       refine seg 35 [.v (.slice A_p0_edges_North p0.edges.North.length c_p0_edges_North), .v (iv (A8_Int.get p1.North x1931))] [0, 2, 4, 33, 34, 53, 61, 66, 67, 71] [(0, (.pointer (some ⟨g_p0, 0, none⟩))), (2, (iv p2)), (4, (pt g1336)), (33, (iv p0.width)), (34, (iv x1931)), (53, (.bool false)), (61, (.bool true)), (66, (.slice A_p0_edges_North p0.edges.North.length c_p0_edges_North)), (67, (iv x1931)), (71, (iv (A8_Int.get p1.North x1931)))] [.idx (some ⟨0, 0, none⟩) x1931 8, .cell ⟨g_p0, 3, none⟩ (.slice A_p0_edges_North p0.edges.North.length c_p0_edges_North), .cell (flatA ⟨g1336, 9, none⟩ (x1931.toNat * 1)) (iv (A8_Int.get p1.North x1931))] (fun fb => by kernel_rfl) rfl ⟨⟨h2196.1, h2196.2, rfl⟩, blk_cell (hS2195.rd 0).1 3 rfl, hS2195.cell 0 rfl _ (cases8 (Q := fun z_ => (#[(.slice A_p1_Cells p1.Cells.length c_p1_Cells), (iv p1.South.e0), (iv p1.South.e1), (iv p1.South.e2), (iv p1.South.e3), (iv p1.South.e4), (iv p1.South.e5), (iv p1.South.e6), (iv p1.South.e7), (iv p1.North.e0), (iv p1.North.e1), (iv p1.North.e2), (iv p1.North.e3), (iv p1.North.e4), (iv p1.North.e5), (iv p1.North.e6), (iv p1.North.e7), (iv p1.West), (iv p1.East)] : Array Value)[9 + z_.toNat * 1]? = some (iv (A8_Int.get p1.North z_))) h2196 (by kernel_rfl) (by kernel_rfl) (by kernel_rfl) (by kernel_rfl) (by kernel_rfl) (by kernel_rfl) (by kernel_rfl) (by kernel_rfl)), trivial⟩ ?_
       obtain ⟨t2197, ht2198, hx2075⟩ := bind_some hx2075
       refine WL.call (some 72) 68 #[(.slice A_p0_edges_North p0.edges.North.length c_p0_edges_North), (iv x1931), (iv (A8_Int.get p1.North x1931))] (fun fb => by kernel_rfl) (fill_at_calls p0.edges.North x1931 (A8_Int.get p1.North x1931) A_p0_edges_North c_p0_edges_North t2197 _ (hS2195.rd 3) ht2198) (fun v w2199 hR2200 => ?_)
       obtain ⟨rfl, hk_⟩ := hR2200
       have hS2201 := hS2195.keepN hk_
       refine ⟨trivial, ?_⟩
       refine seg 39 [] [0, 2, 4, 33, 34, 75] [(0, (.pointer (some ⟨g_p0, 0, none⟩))), (2, (iv p2)), (4, (pt g1336)), (33, (iv p0.width)), (34, (iv x1931)), (75, (.bool (!t2197)))] [] (fun fb => by kernel_rfl) rfl trivial ?_
       refine WL.done rfl ?_
       injection hx2075 with hx2075
       exact WX.to Kx2074 (!t2197) [0, 2, 4, 33, 34, 75] rfl ⟨(hS2201.subR [0, 1, 2, 3, 4, 5, 6, 7]).sub [0] (by decide), hx2075.symm⟩
      refine seg 3 [] [0, 2, 4, 7, 33, 34, 39] [(0, (.pointer (some ⟨g_p0, 0, none⟩))), (2, (iv p2)), (4, (pt g1336)), (7, (iv x1931)), (33, (iv p0.width)), (34, (iv x1931)), (39, (.bool (p2 == 0)))] [] (fun fb => by kernel_rfl) rfl trivial ?_
      refine WL.setB 39 h2076 rfl ?_
      refine seg 25 [.v (iv p0.height)] [0, 2, 4, 7, 33, 34, 53, 61] [(0, (.pointer (some ⟨g_p0, 0, none⟩))), (2, (iv p2)), (4, (pt g1336)), (7, (iv x1931)), (33, (iv p0.width)), (34, (iv x1931)), (53, (.bool false)), (61, (.bool (p2 == (w64 (p0.height - 1)))))] [.cell ⟨g_p0, 2, none⟩ (iv p0.height)] (fun fb => by kernel_rfl) rfl ⟨blk_cell (hS2195.rd 0).1 2 rfl, trivial⟩ ?_
      refine WL.setB 61 h2187 rfl ?_
      refine seg 32 [] [0, 2, 4, 33, 34, 53, 61, 65, 67, 68, 69] [(0, (.pointer (some ⟨g_p0, 0, none⟩))), (2, (iv p2)), (4, (pt g1336)), (33, (iv p0.width)), (34, (iv x1931)), (53, (.bool false)), (61, (.bool true)), (65, (.pointer (some ⟨g_p0, 3, none⟩))), (67, (iv x1931)), (68, (iv x1931)), (69, (.pointer (some ⟨g1336, 9, none⟩)))] [] (fun fb => by kernel_rfl) rfl trivial ?_
      obtain ⟨h2202, hx2075⟩ := as_some hx2075
      refine seg 35 [.v (iv (A8_Int.get p1.North x1931)), .v (.slice A_p0_edges_North p0.edges.North.length c_p0_edges_North)] [0, 2, 4, 33, 34, 53, 61, 66, 67, 71] [(0, (.pointer (some ⟨g_p0, 0, none⟩))), (2, (iv p2)), (4, (pt g1336)), (33, (iv p0.width)), (34, (iv x1931)), (53, (.bool false)), (61, (.bool true)), (66, (.slice A_p0_edges_North p0.edges.North.length c_p0_edges_North)), (67, (iv x1931)), (71, (iv (A8_Int.get p1.North x1931)))] [.idx (some ⟨0, 0, none⟩) x1931 8, .cell (flatA ⟨g1336, 9, none⟩ (x1931.toNat * 1)) (iv (A8_Int.get p1.North x1931)), .cell ⟨g_p0, 3, none⟩ (.slice A_p0_edges_North p0.edges.North.length c_p0_edges_North)] (fun fb => by kernel_rfl) rfl ⟨⟨h2202.1, h2202.2, rfl⟩, hS2195.cell 0 rfl _ (cases8 (Q := fun z_ => (#[(.slice A_p1_Cells p1.Cells.length c_p1_Cells), (iv p1.South.e0), (iv p1.South.e1), (iv p1.South.e2), (iv p1.South.e3), (iv p1.South.e4), (iv p1.South.e5), (iv p1.South.e6), (iv p1.South.e7), (iv p1.North.e0), (iv p1.North.e1), (iv p1.North.e2), (iv p1.North.e3), (iv p1.North.e4), (iv p1.North.e5), (iv p1.North.e6), (iv p1.North.e7), (iv p1.West), (iv p1.East)] : Array Value)[9 + z_.toNat * 1]? = some (iv (A8_Int.get p1.North z_))) h2202 (by kernel_rfl) (by kernel_rfl) (by kernel_rfl) (by kernel_rfl) (by kernel_rfl) (by kernel_rfl) (by kernel_rfl) (by kernel_rfl)), blk_cell (hS2195.rd 0).1 3 rfl, trivial⟩ ?_
      obtain ⟨t2203, ht2204, hx2075⟩ := bind_some hx2075
      refine WL.call (some 72) 68 #[(.slice A_p0_edges_North p0.edges.North.length c_p0_edges_North), (iv x1931), (iv (A8_Int.get p1.North x1931))] (fun fb => by kernel_rfl) (fill_at_calls p0.edges.North x1931 (A8_Int.get p1.North x1931) A_p0_edges_North c_p0_edges_North t2203 _ (hS2195.rd 3) ht2204) (fun v w2205 hR2206 => ?_)
      obtain ⟨rfl, hk_⟩ := hR2206
      have hS2207 := hS2195.keepN hk_
      refine ⟨trivial, ?_⟩
      refine seg 39 [] [0, 2, 4, 33, 34, 75] [(0, (.pointer (some ⟨g_p0, 0, none⟩))), (2, (iv p2)), (4, (pt g1336)), (33, (iv p0.width)), (34, (iv x1931)), (75, (.bool (!t2203)))] [] (fun fb => by kernel_rfl) rfl trivial ?_
      refine WL.done rfl ?_
      injection hx2075 with hx2075
      exact WX.to Kx2074 (!t2203) [0, 2, 4, 33, 34, 75] rfl ⟨(hS2207.subR [0, 1, 2, 3, 4, 5, 6, 7]).sub [0] (by decide), hx2075.symm⟩
     refine WC.regionD ([], [0, 1, 2, 3, 4, 5, 6, 7, 8, 9, 10, 11, 12, 14, 15, 16, 17, 18, 19, 20, 22, 23, 24, 25, 26, 27, 28, 30, 31, 32, 33, 36, 37, 38], [[], [0], [0, 1], [0, 1, 2], [0, 1, 2, 3], [0, 1, 2, 3, 4], [0, 1, 2, 3, 4, 5], [0, 1, 2, 3, 4, 5, 6], [0, 1, 2], [0, 1, 2], [0, 1, 2], [0, 1, 2, 9, 10], [0, 1, 2, 9, 10, 11], [0, 1, 2, 3, 4, 5, 6, 7, 8, 9, 10, 11, 12], [0, 1, 2, 3, 4, 5, 6, 7, 8, 9, 10, 11, 12, 13], [0, 1, 2, 3, 4, 5, 6, 7, 8, 9, 10, 11, 12, 13, 14], [0, 1, 2, 3, 4, 5, 6, 7, 8, 9, 10, 11, 12, 13, 14, 15], [0, 1, 2, 3, 4, 5, 6, 7, 8, 9, 10, 11, 12, 13, 14, 15, 16], [0, 1, 2, 3, 4, 5, 6, 7, 8, 9, 10, 11, 12, 13, 14, 15, 16], [0, 1, 2, 3, 4, 5, 6, 7, 8, 9, 10, 11, 12, 13, 14, 15, 16, 18], [0, 1, 2, 3, 4, 5, 6, 7, 8, 9, 10, 11, 12, 13, 14, 15, 16, 18, 19], [0, 1, 2, 3, 4, 5, 6, 7, 8, 9, 10, 11, 12, 13, 14, 15, 16, 18, 19, 20], [0, 1, 2, 3, 4, 5, 6, 7, 8, 9, 10, 11, 12, 13, 14, 15, 16, 18, 19, 20, 21], [0, 1, 2, 3, 4, 5, 6, 7, 8, 9, 10, 11, 12, 13, 14, 15, 16, 17, 18, 19, 20, 21, 22], [0, 1, 2, 3, 4, 5, 6, 7, 8, 9, 10, 11, 12, 13, 14, 15, 16, 17, 18, 19, 20, 21, 22, 23], [0, 1, 2, 3, 4, 5, 6, 7, 8, 9, 10, 11, 12, 13, 14, 15, 16, 17, 18, 19, 20, 21, 22, 23, 24], [0, 1, 2, 3, 4, 5, 6, 7, 8, 9, 10, 11, 12, 13, 14, 15, 16, 17, 18, 19, 20, 21, 22, 23, 24, 25], [0, 1, 2, 3, 4, 5, 6, 7, 8, 9, 10, 11, 12, 13, 14, 15, 16, 17, 18, 19, 20, 21, 22, 23, 24, 25, 26], [0, 1, 2, 3, 4, 5, 6, 7, 8, 9, 10, 11, 12, 13, 14, 15, 16, 17, 18, 19, 20, 21, 22, 23, 24, 25, 26, 27], [0, 1, 2, 3, 4, 5, 6, 7, 8, 9, 10, 11, 12, 13, 14, 15, 16, 17, 18, 19, 20, 21, 22, 23, 24, 25, 26, 27, 28], [0, 1, 2, 3, 4, 5, 6, 7, 8, 9, 10, 11, 12, 13, 14, 15, 16, 17, 18, 19, 20, 21, 22, 23, 24], [0, 1, 2, 3, 4, 5, 6, 7, 8, 9, 10, 11, 12, 13, 14, 15, 16, 17, 18, 19, 20, 21, 22, 23, 24], [0, 1, 2, 3, 4, 5, 6, 7, 8, 9, 10, 11, 12, 13, 14, 15, 16, 17, 18, 19, 20, 21, 22, 23, 24], [0, 1, 2, 3, 4, 5, 6, 7, 8, 9, 10, 11, 12, 13, 14, 15, 16, 17, 18, 19, 20, 21, 22, 23, 24, 31, 32], [0, 1, 2, 3, 4, 5, 6, 7, 8, 9, 10, 11, 12, 13, 14, 15, 16, 17, 18, 19, 20, 21, 22, 23, 24, 31, 32, 33], [0, 1, 2, 3, 4, 5, 6, 7, 8, 9, 10, 11, 12, 13, 14, 15, 16, 17, 18, 19, 20, 21, 22, 23, 24, 25, 26, 27, 28, 29, 30, 31, 32, 33, 34], [0, 1, 2, 3, 4, 5, 6, 7, 8, 9, 10, 11, 12, 13, 14, 15, 16, 17, 18, 19, 20, 21, 22, 23, 24, 25, 26, 27, 28, 29, 30, 31, 32, 33, 34, 35], [0, 1, 2, 3, 4, 5, 6, 7, 8, 9, 10, 11, 12, 13, 14, 15, 16, 17, 18, 19, 20, 21, 22, 23, 24, 25, 26, 27, 28, 29, 30, 31, 32, 33, 34, 35, 36], [0, 1, 2, 3, 4, 5, 6, 7, 8, 9, 10, 11, 12, 13, 14, 15, 16, 17, 18, 19, 20, 21, 22, 23, 24, 25, 26, 27, 28, 29, 30, 31, 32, 33, 34, 35, 36, 37]]) [[0, 1, 2, 3, 4, 5, 6, 7, 8, 9, 10, 11, 12, 13, 14, 15, 16, 17, 18, 19, 20, 21, 22, 23, 24, 25, 26, 27, 28, 30, 31, 32, 33, 29, 34, 35, 36, 37, 38], [0, 1, 2, 3, 4, 5, 6, 7, 8, 9, 10, 11, 12, 13, 14, 15, 16, 17, 18, 19, 20, 21, 22, 23, 24, 25, 26, 27, 28, 30, 31, 32, 33, 34, 29, 35, 36, 37, 38]] (by kernel_rfl) (by kernel_rfl) (NoPanic.seq (NoPanic.block (NoPanic.seq (NoPanic.seq (NoPanic.block (NoPanic.seq (NoPanic.body))))))) ?_
     have hS2209 := hS1936.drew
     revert hS2209
     generalize World.drew w1935 = w2208
     intro hS2209
     refine ⟨trivial, forallC ?_ (forallC ?_ (forallN))⟩
     ·
      refine seg 3 [] [0, 2, 4, 7, 33, 34, 39] [(0, (.pointer (some ⟨g_p0, 0, none⟩))), (2, (iv p2)), (4, (pt g1336)), (7, (iv x1931)), (33, (iv p0.width)), (34, (iv x1931)), (39, (.bool (p2 == 0)))] [] (fun fb => by kernel_rfl) rfl trivial ?_
      refine WL.setB 39 h2076 rfl ?_
      refine seg 25 [.v (iv p0.height)] [0, 2, 4, 7, 33, 34, 53, 61] [(0, (.pointer (some ⟨g_p0, 0, none⟩))), (2, (iv p2)), (4, (pt g1336)), (7, (iv x1931)), (33, (iv p0.width)), (34, (iv x1931)), (53, (.bool false)), (61, (.bool (p2 == (w64 (p0.height - 1)))))] [.cell ⟨g_p0, 2, none⟩ (iv p0.height)] (fun fb => by kernel_rfl) rfl ⟨blk_cell (hS2209.rd 0).1 2 rfl, trivial⟩ ?_
      refine WL.setB 61 h2187 rfl ?_
      refine seg 39 [] [0, 2, 4, 33, 34, 75] [(0, (.pointer (some ⟨g_p0, 0, none⟩))), (2, (iv p2)), (4, (pt g1336)), (33, (iv p0.width)), (34, (iv x1931)), (75, (.bool false))] [] (fun fb => by kernel_rfl) rfl trivial ?_
      refine WL.done rfl ?_
      injection hx2075 with hx2075
      exact WX.to Kx2074 false [0, 2, 4, 33, 34, 75] rfl ⟨(hS2209.subR [0, 1, 2, 3, 4, 5, 6, 7]).sub [0] (by decide), hx2075.symm⟩
     refine seg 3 [] [0, 2, 4, 7, 33, 34, 39] [(0, (.pointer (some ⟨g_p0, 0, none⟩))), (2, (iv p2)), (4, (pt g1336)), (7, (iv x1931)), (33, (iv p0.width)), (34, (iv x1931)), (39, (.bool (p2 == 0)))] [] (fun fb => by kernel_rfl) rfl trivial ?_
     refine WL.setB 39 h2076 rfl ?_
     refine seg 25 [.v (iv p0.height)] [0, 2, 4, 7, 33, 34, 53, 61] [(0, (.pointer (some ⟨g_p0, 0, none⟩))), (2, (iv p2)), (4, (pt g1336)), (7, (iv x1931)), (33, (iv p0.width)), (34, (iv x1931)), (53, (.bool false)), (61, (.bool (p2 == (w64 (p0.height - 1)))))] [.cell ⟨g_p0, 2, none⟩ (iv p0.height)] (fun fb => by kernel_rfl) rfl ⟨blk_cell (hS2209.rd 0).1 2 rfl, trivial⟩ ?_
     refine WL.setB 61 h2187 rfl ?_
     refine seg 39 [] [0, 2, 4, 33, 34, 75] [(0, (.pointer (some ⟨g_p0, 0, none⟩))), (2, (iv p2)), (4, (pt g1336)), (33, (iv p0.width)), (34, (iv x1931)), (75, (.bool false))] [] (fun fb => by kernel_rfl) rfl trivial ?_
     refine WL.done rfl ?_
     injection hx2075 with hx2075
     exact WX.to Kx2074 false [0, 2, 4, 33, 34, 75] rfl ⟨(hS2209.subR [0, 1, 2, 3, 4, 5, 6, 7]).sub [0] (by decide), hx2075.symm⟩
    rintro y2213 w2210 ⟨hS2211, hq2212⟩
    subst hq2212
    refine WX.next ?_
    rcases br_some hl1937 with ⟨h2214, hl1937⟩ | ⟨h2214, hl1937⟩
    ·refine WC.condT2 (fun fb => by kernel_rfl) h2214 ?_
     refine WC.seq ?_
     refine WC.region ?_
     refine seg 1 [] [6] [(6, (.bool false))] [] (fun fb => by kernel_rfl) rfl trivial ?_
     refine WL.done rfl ?_
     refine WX.next ?_
     refine WC.ret ?_
     injection hl1937 with hl1937
     subst hl1937
     injection hf with hf
     subst hf
     exact WX.blockR (WX.thenR (WX.thenR (WX.blockR (WX.thenR (WX.ret_ [] (.bool false) [] (fun fb => by kernel_rfl) trivial ⟨_, rfl, rfl, hS2211.keep⟩)))))
    refine WC.condF2 (fun fb => by kernel_rfl) h2214 ?_
    refine WC.skip ?_
    refine WX.blockN (WX.next ?_)
    refine WC.region ?_
    refine seg 2 [] [0, 2, 4, 33, 34] [(0, (.pointer (some ⟨g_p0, 0, none⟩))), (2, (iv p2)), (4, (pt g1336)), (33, (iv p0.width)), (34, (iv (w64 (x1931 + 1))))] [] (fun fb => by kernel_rfl) rfl trivial ?_
    refine WL.done rfl ?_
    exact WX.again k1934 (Nat.lt_succ_self _) (w64 (x1931 + 1)) [0, 2, 4, 33, 34] rfl ⟨(hS2211.subR [0, 1, 2, 3, 4, 5, 6, 7]).sub [0] (by decide), hl1937⟩
   refine WC.condF2 (fun fb => by kernel_rfl) h1938 ?_
   refine WC.exit ?_
   injection hl1937 with hl1937
   exact WX.thenX (WX.thenX (WX.blockHere (WX.to Kx1932 () [] rfl ⟨(hS1936.subR [0, 1, 2, 3, 4, 5, 6, 7]).sub [] (by decide), hl1937.symm⟩)))
 rintro y2218 w2215 ⟨hS2216, hq2217⟩
 subst hq2217
 have hf := sum_inr hf
 refine WX.next ?_
 refine WC.seq ?_
 refine WC.region ?_
 refine seg 1 [] [6] [(6, (.bool true))] [] (fun fb => by kernel_rfl) rfl trivial ?_
 refine WL.done rfl ?_
 refine WX.next ?_
 refine WC.ret ?_
 injection hf with hf
 subst hf
 exact WX.ret_ [] (.bool true) [] (fun fb => by kernel_rfl) trivial ⟨_, rfl, rfl, hS2216.keep⟩
end Gp
