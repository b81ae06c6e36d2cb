/- Walks: each function of the program computes its plain function. -/
import Derived.Test.YtmdkdigmkcpceaaGp
set_option linter.unusedVariables false
set_option linter.unusedSimpArgs false
set_option maxHeartbeats 4000000
namespace Gp
open Go Gw Go.Proofs
theorem tile_colour_1_calls (p0 : Int)  (r : Bool) (w : World)  (hf : tile_colour_1 p0 = some r) :
  CallsR Try.prog 80 #[(iv p0)] w (fun v w' => v = (.bool r) ∧ Keeps NoS w w') := by
 have hS : St NoS w w [] [] := St.init (ro_nil _ _)
 refine enter 9 Try.func80 rfl Try.ntmps80 rfl ?_
 unfold tile_colour_1 at hf
 refine WC.seq ?_
 refine WC.region ?_
 refine seg 1 [] [0] [(0, (iv p0))] [] (fun fb => by kernel_rfl) rfl trivial ?_
 refine WL.done rfl ?_
 refine WX.next ?_
 refine WC.seq ?_
 refine WC.region ?_
 refine seg 3 [] [0, 5] [(0, (iv p0)), (5, (.bool (decide (p0 < 0))))] [] (fun fb => by kernel_rfl) rfl trivial ?_
 refine WL.cutV (T := Bool) 6 (fun t => [(8, (.bool t))]) (fun t => ((decide (p0 < 0)) || (decide (p0 ≥ 1000))) = t) (fun K => ?_) ?_
 ·
  rcases Bool.eq_false_or_eq_true (decide (p0 < 0)) with h34 | h34
  ·
   refine WL.setB 5 h34 rfl ?_
   refine seg 6 [] [8] [(8, (.bool true))] [] (fun fb => by kernel_rfl) rfl trivial ?_
   exact WL.toV K true [8] rfl (by first | (rw [h34]; done) | (rw [h34]; rfl))
  refine WL.setB 5 h34 rfl ?_
  refine seg 6 [] [8] [(8, (.bool (decide (p0 ≥ 1000))))] [] (fun fb => by kernel_rfl) rfl trivial ?_
  exact WL.toV K (decide (p0 ≥ 1000)) [8] rfl (by first | (rw [h34]; done) | (rw [h34]; rfl))
 rintro b35 rfl
 refine seg 7 [] [2] [(2, (.bool ((decide (p0 < 0)) || (decide (p0 ≥ 1000)))))] [] (fun fb => by kernel_rfl) rfl trivial ?_
 refine WL.done rfl ?_
 refine WX.next ?_
 refine WC.ret ?_
 injection hf with hf
 subst hf
 exact WX.ret_ [] (.bool ((decide (p0 < 0)) || (decide (p0 ≥ 1000)))) [] (fun fb => by kernel_rfl) trivial ⟨_, rfl, rfl, hS.keep⟩
theorem slices_IndexFunc_int_int_with_tile_colour_1_calls (k : Nat) (p0 : List Int) (A_p0 : Option Addr) (c_p0 : Nat) (r : Int) (w : World) (hR0 : RO NoS w (rowR encInt A_p0 c_p0 p0)) (hf : slices_IndexFunc_int_int_with_tile_colour_1 k p0 = some r) :
  CallsR Try.prog 81 #[(.slice A_p0 p0.length c_p0), (.func (.func 80) #[] #[])] w (fun v w' => v = (iv r) ∧ Keeps NoS w w') := by
 have hS : St NoS w w [rowR encInt A_p0 c_p0 p0] [] := St.init (ro_cons hR0 (ro_nil _ _))
 refine enter 19 Try.func81 rfl Try.ntmps81 rfl ?_
 unfold slices_IndexFunc_int_int_with_tile_colour_1 at hf
 refine WC.seq ?_
 refine WC.region ?_
 refine seg 1 [] [0, 1] [(0, (.slice A_p0 p0.length c_p0)), (1, (.func (.func 80) #[] #[]))] [] (fun fb => by kernel_rfl) rfl trivial ?_
 refine WL.done rfl ?_
 refine WX.next ?_
 refine WC.seq ?_
 refine WC.seq ?_
 refine WC.region ?_
 refine seg 3 [] [0, 1, 7, 8] [(0, (.slice A_p0 p0.length c_p0)), (1, (.func (.func 80) #[] #[])), (7, (iv (p0.length : Int))), (8, (iv 0))] [] (fun fb => by kernel_rfl) rfl trivial ?_
 refine WL.done rfl ?_
 refine WX.next ?_
 obtain ⟨x52, hx53, hf⟩ := bind_some hf
 refine WC.cutN (T := Unit) (fun t => []) (fun t w1 => St NoS w w1 [rowR encInt A_p0 c_p0 p0] [] ∧ x52 = .inr t) (fun Kx52 => ?_) ?_
 ·
  refine WC.block ?_
  refine WC.loop (T := Int) (fun t => [(0, (.slice A_p0 p0.length c_p0)), (1, (.func (.func 80) #[] #[])), (7, (iv (p0.length : Int))), (8, (iv t))]) (fun n t w1 => St NoS w w1 [rowR encInt A_p0 c_p0 p0] [] ∧ slices_IndexFunc_int_int_with_tile_colour_1.l0 n t p0 = some x52) k 0 [0, 1, 7, 8] rfl ⟨(hS.subR [0]).sub [] (by decide), hx53⟩ ?_
  rintro k54 x51 w55 ⟨hS56, hl57⟩
  cases k54 with
  | zero => rw [slices_IndexFunc_int_int_with_tile_colour_1.l0] at hl57; cases hl57
  | succ k54 =>
   rw [slices_IndexFunc_int_int_with_tile_colour_1.l0] at hl57
   refine WC.seq ?_
   refine WC.region ?_
   refine seg 1 [] [0, 1, 7, 8, 9] [(0, (.slice A_p0 p0.length c_p0)), (1, (.func (.func 80) #[] #[])), (7, (iv (p0.length : Int))), (8, (iv x51)), (9, (.bool (decide (x51 < (p0.length : Int)))))] [] (fun fb => by kernel_rfl) rfl trivial ?_
   refine WL.done rfl ?_
   refine WX.next ?_
   refine WC.seq ?_
   rcases br_some hl57 with ⟨h58, hl57⟩ | ⟨h58, hl57⟩
   ·refine WC.condT2 (fun fb => by kernel_rfl) h58 ?_
    refine WC.skip ?_
    refine WX.next ?_
    refine WC.seq ?_
    refine WC.block ?_
    refine WC.seq ?_
    refine WC.region ?_
    refine seg 2 [] [0, 1, 5, 7, 8] [(0, (.slice A_p0 p0.length c_p0)), (1, (.func (.func 80) #[] #[])), (5, (iv x51)), (7, (iv (p0.length : Int))), (8, (iv x51))] [] (fun fb => by kernel_rfl) rfl trivial ?_
    refine WL.done rfl ?_
    refine WX.next ?_
    refine WC.seq ?_
    refine WC.region ?_
    refine seg 3 [] [0, 1, 5, 7, 8, 11, 12, 13] [(0, (.slice A_p0 p0.length c_p0)), (1, (.func (.func 80) #[] #[])), (5, (iv x51)), (7, (iv (p0.length : Int))), (8, (iv x51)), (11, (.func (.func 80) #[] #[])), (12, (.slice A_p0 p0.length c_p0)), (13, (iv x51))] [] (fun fb => by kernel_rfl) rfl trivial ?_
    obtain ⟨h59, hl57⟩ := as_some hl57
    refine seg 5 [.v (iv (rdD p0 x51 0))] [0, 1, 5, 7, 8, 11, 15] [(0, (.slice A_p0 p0.length c_p0)), (1, (.func (.func 80) #[] #[])), (5, (iv x51)), (7, (iv (p0.length : Int))), (8, (iv x51)), (11, (.func (.func 80) #[] #[])), (15, (iv (rdD p0 x51 0)))] [.idx A_p0 x51 p0.length, .cell ((adr A_p0).add ((x51).toNat * 1)) (iv (rdD p0 x51 0))] (fun fb => by kernel_rfl) rfl ⟨rowR.adr (hS56.rd 0).1 h59.1 h59.2, rowR.cell (hS56.rd 0).1 0 h59.1 h59.2 0 rfl, trivial⟩ ?_
    obtain ⟨t60, ht61, hl57⟩ := bind_some hl57
    refine WL.call (some 16) 80 #[(iv (rdD p0 x51 0))] (fun fb => by kernel_rfl) (tile_colour_1_calls (rdD p0 x51 0) t60 _ ht61) (fun v w62 hR63 => ?_)
    obtain ⟨rfl, hk_⟩ := hR63
    have hS64 := hS56.keepN hk_
    refine ⟨trivial, ?_⟩
    refine WL.done rfl ?_
    refine WX.next ?_
    rcases br_some hl57 with ⟨h65, hl57⟩ | ⟨h65, hl57⟩
    ·refine WC.condT2 (fun fb => by kernel_rfl) h65 ?_
     refine WC.seq ?_
     refine WC.region ?_
     refine seg 2 [] [4] [(4, (iv x51))] [] (fun fb => by kernel_rfl) rfl trivial ?_
     refine WL.done rfl ?_
     refine WX.next ?_
     refine WC.ret ?_
     injection hl57 with hl57
     subst hl57
     injection hf with hf
     subst hf
     exact WX.blockR (WX.thenR (WX.thenR (WX.blockR (WX.thenR (WX.ret_ [] (iv x51) [] (fun fb => by kernel_rfl) trivial ⟨_, rfl, rfl, hS64.keep⟩)))))
    refine WC.condF2 (fun fb => by kernel_rfl) h65 ?_
    refine WC.skip ?_
    refine WX.blockN (WX.next ?_)
    refine WC.region ?_
    refine seg 2 [] [0, 1, 7, 8] [(0, (.slice A_p0 p0.length c_p0)), (1, (.func (.func 80) #[] #[])), (7, (iv (p0.length : Int))), (8, (iv (w64 (x51 + 1))))] [] (fun fb => by kernel_rfl) rfl trivial ?_
    refine WL.done rfl ?_
    exact WX.again k54 (Nat.lt_succ_self _) (w64 (x51 + 1)) [0, 1, 7, 8] rfl ⟨(hS64.subR [0]).sub [] (by decide), hl57⟩
   refine WC.condF2 (fun fb => by kernel_rfl) h58 ?_
   refine WC.exit ?_
   injection hl57 with hl57
   exact WX.thenX (WX.thenX (WX.blockHere (WX.to Kx52 () [] rfl ⟨(hS56.subR [0]).sub [] (by decide), hl57.symm⟩)))
 rintro y69 w66 ⟨hS67, hq68⟩
 subst hq68
 have hf := sum_inr hf
 refine WX.next ?_
 refine WC.seq ?_
 refine WC.region ?_
 refine seg 1 [] [4] [(4, (iv (-1)))] [] (fun fb => by kernel_rfl) rfl trivial ?_
 refine WL.done rfl ?_
 refine WX.next ?_
 refine WC.ret ?_
 injection hf with hf
 subst hf
 exact WX.ret_ [] (iv (-1)) [] (fun fb => by kernel_rfl) trivial ⟨_, rfl, rfl, hS67.keep⟩
theorem slices_ContainsFunc_int_int_with_tile_colour_1_calls (k : Nat) (p0 : List Int) (A_p0 : Option Addr) (c_p0 : Nat) (r : Bool) (w : World) (hR0 : RO NoS w (rowR encInt A_p0 c_p0 p0)) (hf : slices_ContainsFunc_int_int_with_tile_colour_1 k p0 = some r) :
  CallsR Try.prog 65 #[(.slice A_p0 p0.length c_p0), (.func (.func 80) #[] #[])] w (fun v w' => v = (.bool r) ∧ Keeps NoS w w') := by
 have hS : St NoS w w [rowR encInt A_p0 c_p0 p0] [] := St.init (ro_cons hR0 (ro_nil _ _))
 refine enter 9 Try.func65 rfl Try.ntmps65 rfl ?_
 unfold slices_ContainsFunc_int_int_with_tile_colour_1 at hf
 refine WC.seq ?_
 refine WC.region ?_
 refine seg 1 [] [0, 1] [(0, (.slice A_p0 p0.length c_p0)), (1, (.func (.func 80) #[] #[]))] [] (fun fb => by kernel_rfl) rfl trivial ?_
 refine WL.done rfl ?_
 refine WX.next ?_
 refine WC.seq ?_
 refine WC.region ?_
 refine seg 2 [] [5, 6] [(5, (.slice A_p0 p0.length c_p0)), (6, (.func (.func 80) #[] #[]))] [] (fun fb => by kernel_rfl) rfl trivial ?_
 obtain ⟨t71, ht72, hf⟩ := bind_some hf
 refine WL.call (some 7) 81 #[(.slice A_p0 p0.length c_p0), (.func (.func 80) #[] #[])] (fun fb => by kernel_rfl) (slices_IndexFunc_int_int_with_tile_colour_1_calls _ p0 A_p0 c_p0 t71 _ (hS.rd 0) ht72) (fun v w73 hR74 => ?_)
 obtain ⟨rfl, hk_⟩ := hR74
 have hS75 := hS.keepN hk_
 refine ⟨trivial, ?_⟩
 refine seg 5 [] [4] [(4, (.bool (decide (t71 ≥ 0))))] [] (fun fb => by kernel_rfl) rfl trivial ?_
 refine WL.done rfl ?_
 refine WX.next ?_
 refine WC.ret ?_
 injection hf with hf
 subst hf
 exact WX.ret_ [] (.bool (decide (t71 ≥ 0))) [] (fun fb => by kernel_rfl) trivial ⟨_, rfl, rfl, hS75.keep⟩
theorem tile_colour_calls (k : Nat) (p0 : List Int) (A_p0 : Option Addr) (c_p0 : Nat) (r : Bool) (w : World) (hR0 : RO NoS w (rowR encInt A_p0 c_p0 p0)) (hf : tile_colour k p0 = some r) :
  CallsR Try.prog 59 #[(.slice A_p0 p0.length c_p0)] w (fun v w' => v = (.bool r) ∧ Keeps NoS w w') := by
 have hS : St NoS w w [rowR encInt A_p0 c_p0 p0] [] := St.init (ro_cons hR0 (ro_nil _ _))
 refine enter 6 Try.func59 rfl Try.ntmps59 rfl ?_
 unfold tile_colour at hf
 refine WC.seq ?_
 refine WC.region ?_
 refine seg 1 [] [0] [(0, (.slice A_p0 p0.length c_p0))] [] (fun fb => by kernel_rfl) rfl trivial ?_
 refine WL.done rfl ?_
 refine WX.next ?_
 refine WC.seq ?_
 refine WC.region ?_
 refine seg 1 [] [3] [(3, (.slice A_p0 p0.length c_p0))] [] (fun fb => by kernel_rfl) rfl trivial ?_
 obtain ⟨t76, ht77, hf⟩ := bind_some hf
 refine WL.call (some 4) 65 #[(.slice A_p0 p0.length c_p0), (.func (.func 80) #[] #[])] (fun fb => by kernel_rfl) (slices_ContainsFunc_int_int_with_tile_colour_1_calls _ p0 A_p0 c_p0 t76 _ (hS.rd 0) ht77) (fun v w78 hR79 => ?_)
 obtain ⟨rfl, hk_⟩ := hR79
 have hS80 := hS.keepN hk_
 refine ⟨trivial, ?_⟩
 refine seg 4 [] [2] [(2, (.bool (!t76)))] [] (fun fb => by kernel_rfl) rfl trivial ?_
 refine WL.done rfl ?_
 refine WX.next ?_
 refine WC.ret ?_
 injection hf with hf
 subst hf
 exact WX.ret_ [] (.bool (!t76)) [] (fun fb => by kernel_rfl) trivial ⟨_, rfl, rfl, hS80.keep⟩
theorem tile_Valid_key24 : KeyK Try.prog 24 (aggI ints_Tile) := KeyK.struct (n := 4) (by kernel_rfl) ints_Tile (fun _ => rfl) (fun x y h => by cases x; cases y; simp only [ints_Tile, List.cons.injEq, and_true] at h; obtain ⟨rfl, rfl, rfl, rfl⟩ := h; rfl)
theorem tile_Valid_calls (k : Nat) (p0 : List Tile) (A_p0 : Option Addr) (c_p0 : Nat) (r : Bool) (w : World) (hR0 : RO NoS w (rowR enc_Tile A_p0 c_p0 p0)) (hf : tile_Valid k p0 = some r) :
  CallsR Try.prog 38 #[(.slice A_p0 p0.length c_p0)] w (fun v w' => v = (.bool r) ∧ Keeps NoS w w') := by
 have hS : St NoS w w [rowR enc_Tile A_p0 c_p0 p0] [] := St.init (ro_cons hR0 (ro_nil _ _))
 refine enter 35 Try.func38 rfl Try.ntmps38 rfl ?_
 unfold tile_Valid at hf
 refine WC.seq ?_
 refine WC.region ?_
 refine seg 1 [] [0] [(0, (.slice A_p0 p0.length c_p0))] [] (fun fb => by kernel_rfl) rfl trivial ?_
 refine WL.done rfl ?_
 refine WX.next ?_
 refine WC.seq ?_
 refine WC.seq ?_
 refine WC.region ?_
 refine seg 3 [] [0, 8] [(0, (.slice A_p0 p0.length c_p0)), (8, (.bool (decide ((p0.length : Int) > 1000))))] [] (fun fb => by kernel_rfl) rfl trivial ?_
 refine WL.done rfl ?_
 refine WX.next ?_
 rcases br_some hf with ⟨h15, hf⟩ | ⟨h15, hf⟩
 ·refine WC.condT2 (fun fb => by kernel_rfl) h15 ?_
  refine WC.seq ?_
  refine WC.region ?_
  refine seg 1 [] [2] [(2, (.bool false))] [] (fun fb => by kernel_rfl) rfl trivial ?_
  refine WL.done rfl ?_
  refine WX.next ?_
  refine WC.ret ?_
  injection hf with hf
  subst hf
  exact WX.thenR (WX.ret_ [] (.bool false) [] (fun fb => by kernel_rfl) trivial ⟨_, rfl, rfl, hS.keep⟩)
 refine WC.condF2 (fun fb => by kernel_rfl) h15 ?_
 refine WC.skip ?_
 refine WX.next ?_
 refine WC.seq ?_
 refine WC.region ?_
 refine WL.new hS 9 [] (fun g => (.map (some g))) (mapObj (aggI ints_Tile) vB ([] : List (Tile × Bool))) [] (fun fb g => by kernel_rfl) trivial (fun g16 w17 hS18 => ?_)
 refine ⟨trivial, ?_⟩
 refine seg 2 [] [0, 3] [(0, (.slice A_p0 p0.length c_p0)), (3, (.map (some g16)))] [] (fun fb => by kernel_rfl) rfl trivial ?_
 refine WL.done rfl ?_
 refine WX.next ?_
 refine WC.seq ?_
 refine WC.seq ?_
 refine WC.region ?_
 refine seg 3 [] [3, 10, 11, 12] [(3, (.map (some g16))), (10, (.slice A_p0 p0.length c_p0)), (11, (iv (p0.length : Int))), (12, (iv 0))] [] (fun fb => by kernel_rfl) rfl trivial ?_
 refine WL.done rfl ?_
 refine WX.next ?_
 obtain ⟨x152, hx153, hf⟩ := bind_some hf
 refine WC.cutN (T := Unit) (fun t => []) (fun t w1 => St NoS w w1 [rowR enc_Tile A_p0 c_p0 p0] [] ∧ x152 = .inr t) (fun Kx152 => ?_) ?_
 ·
  refine WC.block ?_
  refine WC.loop (T := (List (Tile × Bool)) × Int) (fun t => [(3, (.map (some g16))), (10, (.slice A_p0 p0.length c_p0)), (11, (iv (p0.length : Int))), (12, (iv t.2))]) (fun n t w1 => St NoS w w1 [rowR enc_Tile A_p0 c_p0 p0] [blk g16 (mapObj (aggI ints_Tile) vB t.1)] ∧ tile_Valid.l0 n t.1 t.2 p0 = some x152) k (([] : List (Tile × Bool)), 0) [3, 10, 11, 12] rfl ⟨(hS18.subR [0]).sub [0] (by decide), hx153⟩ ?_
  rintro k154 ⟨l150, x151⟩ w155 ⟨hS156, hl157⟩
  cases k154 with
  | zero => rw [tile_Valid.l0] at hl157; cases hl157
  | succ k154 =>
   rw [tile_Valid.l0] at hl157
   refine WC.seq ?_
   refine WC.region ?_
   refine seg 1 [] [3, 10, 11, 12, 13] [(3, (.map (some g16))), (10, (.slice A_p0 p0.length c_p0)), (11, (iv (p0.length : Int))), (12, (iv x151)), (13, (.bool (decide (x151 < (p0.length : Int)))))] [] (fun fb => by kernel_rfl) rfl trivial ?_
   refine WL.done rfl ?_
   refine WX.next ?_
   refine WC.seq ?_
   rcases br_some hl157 with ⟨h158, hl157⟩ | ⟨h158, hl157⟩
   ·refine WC.condT2 (fun fb => by kernel_rfl) h158 ?_
    refine WC.skip ?_
    refine WX.next ?_
    refine WC.seq ?_
    refine WC.block ?_
    refine WC.seq ?_
    refine WC.region ?_
    obtain ⟨h159, hl157⟩ := as_some hl157
    refine seg 2 [.v (iv ((rdD p0 x151 z_Tile).N)), .v (iv ((rdD p0 x151 z_Tile).E)), .v (iv ((rdD p0 x151 z_Tile).S)), .v (iv ((rdD p0 x151 z_Tile).W))] [3, 10, 11, 12, 15] [(3, (.map (some g16))), (10, (.slice A_p0 p0.length c_p0)), (11, (iv (p0.length : Int))), (12, (iv x151)), (15, (.agg #[(iv ((rdD p0 x151 z_Tile).N)), (iv ((rdD p0 x151 z_Tile).E)), (iv ((rdD p0 x151 z_Tile).S)), (iv ((rdD p0 x151 z_Tile).W))]))] [.idx A_p0 x151 p0.length, .cell ((adr A_p0).add ((x151).toNat * 4)) (iv ((rdD p0 x151 z_Tile).N)), .cell (((adr A_p0).add ((x151).toNat * 4)).add 1) (iv ((rdD p0 x151 z_Tile).E)), .cell (((adr A_p0).add ((x151).toNat * 4)).add 2) (iv ((rdD p0 x151 z_Tile).S)), .cell (((adr A_p0).add ((x151).toNat * 4)).add 3) (iv ((rdD p0 x151 z_Tile).W))] (fun fb => by kernel_rfl) rfl ⟨rowR.adr (hS156.rd 0).1 h159.1 h159.2, rowR.cell (hS156.rd 0).1 z_Tile h159.1 h159.2 0 rfl, rowR.cell (hS156.rd 0).1 z_Tile h159.1 h159.2 1 rfl, rowR.cell (hS156.rd 0).1 z_Tile h159.1 h159.2 2 rfl, rowR.cell (hS156.rd 0).1 z_Tile h159.1 h159.2 3 rfl, trivial⟩ ?_
    refine WL.new hS156 5 [] (fun g => (.pointer (some ⟨g, 0, none⟩))) (.cells #[(iv 0), (iv 0), (iv 0), (iv 0)] 24 (0, 0)) [] (fun fb g => by kernel_rfl) trivial (fun g160 w161 hS162 => ?_)
    refine ⟨trivial, ?_⟩
    refine WL.store hS162 0 rfl [(0, (iv ((rdD p0 x151 z_Tile).N))), (1, (iv ((rdD p0 x151 z_Tile).E))), (2, (iv ((rdD p0 x151 z_Tile).S))), (3, (iv ((rdD p0 x151 z_Tile).W)))] #[(iv ((rdD p0 x151 z_Tile).N)), (iv ((rdD p0 x151 z_Tile).E)), (iv ((rdD p0 x151 z_Tile).S)), (iv ((rdD p0 x151 z_Tile).W))] (fun fb => by kernel_rfl) (by kernel_rfl) rfl [1] (by decide) (by decide) (fun w164 hS165 => ?_)
    refine ⟨trivial, ?_⟩
    refine WL.done rfl ?_
    refine WX.next ?_
    refine WC.seq ?_
    refine WC.seq ?_
    refine WC.region ?_
    refine seg 2 [.v (iv ((rdD p0 x151 z_Tile).N)), .v (iv ((rdD p0 x151 z_Tile).E)), .v (iv ((rdD p0 x151 z_Tile).S)), .v (iv ((rdD p0 x151 z_Tile).W))] [3, 5, 10, 11, 12, 16, 17] [(3, (.map (some g16))), (5, (pt g160)), (10, (.slice A_p0 p0.length c_p0)), (11, (iv (p0.length : Int))), (12, (iv x151)), (16, (.map (some g16))), (17, (.agg #[(iv ((rdD p0 x151 z_Tile).N)), (iv ((rdD p0 x151 z_Tile).E)), (iv ((rdD p0 x151 z_Tile).S)), (iv ((rdD p0 x151 z_Tile).W))]))] [.cell ⟨g160, 0, none⟩ (iv ((rdD p0 x151 z_Tile).N)), .cell ⟨g160, 1, none⟩ (iv ((rdD p0 x151 z_Tile).E)), .cell ⟨g160, 2, none⟩ (iv ((rdD p0 x151 z_Tile).S)), .cell ⟨g160, 3, none⟩ (iv ((rdD p0 x151 z_Tile).W))] (fun fb => by kernel_rfl) rfl ⟨hS165.cell 0 rfl 0 rfl, hS165.cell 0 rfl 1 rfl, hS165.cell 0 rfl 2 rfl, hS165.cell 0 rfl 3 rfl, trivial⟩ ?_
    refine WL.lookup (hS165.own 1).1 (rdD p0 x151 z_Tile) (d := 18) (c := false) (t := 100) (kT := 24) (eT := 4) (z := false) (kE := (aggI ints_Tile)) (vE := vB) (l := l150) (.bool (mget (rdD p0 x151 z_Tile) false l150)) (fun fb => by kernel_rfl) tile_Valid_key24 (by kernel_rfl) (fun _ => by kernel_rfl) rfl ?_
    refine ⟨trivial, ?_⟩
    refine seg 4 [] [3, 5, 10, 11, 12, 19] [(3, (.map (some g16))), (5, (pt g160)), (10, (.slice A_p0 p0.length c_p0)), (11, (iv (p0.length : Int))), (12, (iv x151)), (19, (.bool (mget (rdD p0 x151 z_Tile) false l150)))] [] (fun fb => by kernel_rfl) rfl trivial ?_
    obtain ⟨x177, hx178, hl157⟩ := bind_some hl157
    refine WL.cutW (T := Bool) 16 (fun t => [(3, (.map (some g16))), (5, (pt g160)), (10, (.slice A_p0 p0.length c_p0)), (11, (iv (p0.length : Int))), (12, (iv x151)), (31, (.bool t))]) (fun t w1 => (St NoS w w1 [rowR enc_Tile A_p0 c_p0 p0] [blk g16 (mapObj (aggI ints_Tile) vB l150), blk g160 (.cells #[(iv ((rdD p0 x151 z_Tile).N)), (iv ((rdD p0 x151 z_Tile).E)), (iv ((rdD p0 x151 z_Tile).S)), (iv ((rdD p0 x151 z_Tile).W))] 24 (0, 0))] ∧ x177 = t) ∧ CellsOK [] w1) (fun K => ?_) ?_
    ·
     rcases br_some hx178 with ⟨h179, hx178⟩ | ⟨h179, hx178⟩
     ·
      refine WL.setB 19 h179 rfl ?_
      refine seg 16 [] [3, 5, 10, 11, 12, 31] [(3, (.map (some g16))), (5, (pt g160)), (10, (.slice A_p0 p0.length c_p0)), (11, (iv (p0.length : Int))), (12, (iv x151)), (31, (.bool true))] [] (fun fb => by kernel_rfl) rfl trivial ?_
      injection hx178 with hx178
      exact WL.to K true [3, 5, 10, 11, 12, 31] rfl ⟨⟨(hS165.subR [0]).sub [1, 0] (by decide), hx178.symm⟩, trivial⟩
     refine WL.setB 19 h179 rfl ?_
     refine seg 12 [.v (iv ((rdD p0 x151 z_Tile).N)), .v (iv ((rdD p0 x151 z_Tile).E)), .v (iv ((rdD p0 x151 z_Tile).S)), .v (iv ((rdD p0 x151 z_Tile).W))] [3, 5, 10, 11, 12, 19, 21, 23, 25, 27] [(3, (.map (some g16))), (5, (pt g160)), (10, (.slice A_p0 p0.length c_p0)), (11, (iv (p0.length : Int))), (12, (iv x151)), (19, (.bool false)), (21, (iv ((rdD p0 x151 z_Tile).N))), (23, (iv ((rdD p0 x151 z_Tile).E))), (25, (iv ((rdD p0 x151 z_Tile).S))), (27, (iv ((rdD p0 x151 z_Tile).W)))] [.cell ⟨g160, 0, none⟩ (iv ((rdD p0 x151 z_Tile).N)), .cell ⟨g160, 1, none⟩ (iv ((rdD p0 x151 z_Tile).E)), .cell ⟨g160, 2, none⟩ (iv ((rdD p0 x151 z_Tile).S)), .cell ⟨g160, 3, none⟩ (iv ((rdD p0 x151 z_Tile).W))] (fun fb => by kernel_rfl) rfl ⟨hS165.cell 0 rfl 0 rfl, hS165.cell 0 rfl 1 rfl, hS165.cell 0 rfl 2 rfl, hS165.cell 0 rfl 3 rfl, trivial⟩ ?_
     refine WL.new hS165 28 [] (fun g => (.slice (some ⟨g, 0, none⟩) 4 4)) (.cells #[(iv ((rdD p0 x151 z_Tile).N)), (iv ((rdD p0 x151 z_Tile).E)), (iv ((rdD p0 x151 z_Tile).S)), (iv ((rdD p0 x151 z_Tile).W))] 3 (0, 0)) [] (fun fb g => by kernel_rfl) trivial (fun g180 w181 hS182 => ?_)
     refine ⟨trivial, ?_⟩
     have hS184 : St NoS w w181 [rowR enc_Tile A_p0 c_p0 p0] [rowO 3 encInt (some ⟨g180, 0, none⟩) 4 [(rdD p0 x151 z_Tile).N, (rdD p0 x151 z_Tile).E, (rdD p0 x151 z_Tile).S, (rdD p0 x151 z_Tile).W], blk g160 (.cells #[(iv ((rdD p0 x151 z_Tile).N)), (iv ((rdD p0 x151 z_Tile).E)), (iv ((rdD p0 x151 z_Tile).S)), (iv ((rdD p0 x151 z_Tile).W))] 24 (0, 0)), blk g16 (mapObj (aggI ints_Tile) vB l150)] := hS182.map1 0 _ (fun h => rowO.ofBlk h rfl (Nat.le_of_ble_eq_true (by kernel_rfl))) (fun _ h => by obtain ⟨_, h1, h2⟩ := h; injection h1 with h1; subst h1; exact h2) [1, 2] (by decide) (by decide)
     obtain ⟨t185, ht186, hx178⟩ := bind_some hx178
     refine WL.call (some 29) 59 #[(.slice (some ⟨g180, 0, none⟩) [(rdD p0 x151 z_Tile).N, (rdD p0 x151 z_Tile).E, (rdD p0 x151 z_Tile).S, (rdD p0 x151 z_Tile).W].length 4)] (fun fb => by kernel_rfl) (tile_colour_calls _ [(rdD p0 x151 z_Tile).N, (rdD p0 x151 z_Tile).E, (rdD p0 x151 z_Tile).S, (rdD p0 x151 z_Tile).W] (some ⟨g180, 0, none⟩) 4 t185 _ (hS184.ow 0).ofO ht186) (fun v w187 hR188 => ?_)
     obtain ⟨rfl, hk_⟩ := hR188
     have hS189 := hS184.keepN hk_
     refine ⟨trivial, ?_⟩
     refine seg 16 [] [3, 5, 10, 11, 12, 31] [(3, (.map (some g16))), (5, (pt g160)), (10, (.slice A_p0 p0.length c_p0)), (11, (iv (p0.length : Int))), (12, (iv x151)), (31, (.bool (!t185)))] [] (fun fb => by kernel_rfl) rfl trivial ?_
     injection hx178 with hx178
     exact WL.to K (!t185) [3, 5, 10, 11, 12, 31] rfl ⟨⟨(hS189.subR [0]).sub [2, 1] (by decide), hx178.symm⟩, trivial⟩
    rintro y190 w192 ⟨⟨hS193, hq191⟩, hF194⟩
    subst hq191
    refine WL.done rfl ?_
    refine WX.next ?_
    rcases br_some hl157 with ⟨h195, hl157⟩ | ⟨h195, hl157⟩
    ·refine WC.condT2 (fun fb => by kernel_rfl) h195 ?_
     refine WC.seq ?_
     refine WC.region ?_
     refine seg 1 [] [2] [(2, (.bool false))] [] (fun fb => by kernel_rfl) rfl trivial ?_
     refine WL.done rfl ?_
     refine WX.next ?_
     refine WC.ret ?_
     injection hl157 with hl157
     subst hl157
     injection hf with hf
     subst hf
     exact WX.thenR (WX.blockR (WX.thenR (WX.thenR (WX.blockR (WX.thenR (WX.ret_ [] (.bool false) [] (fun fb => by kernel_rfl) trivial ⟨_, rfl, rfl, hS193.keep⟩))))))
    refine WC.condF2 (fun fb => by kernel_rfl) h195 ?_
    refine WC.skip ?_
    refine WX.next ?_
    refine WC.region ?_
    refine seg 2 [.v (iv ((rdD p0 x151 z_Tile).N)), .v (iv ((rdD p0 x151 z_Tile).E)), .v (iv ((rdD p0 x151 z_Tile).S)), .v (iv ((rdD p0 x151 z_Tile).W))] [3, 10, 11, 12, 32, 33] [(3, (.map (some g16))), (10, (.slice A_p0 p0.length c_p0)), (11, (iv (p0.length : Int))), (12, (iv x151)), (32, (.map (some g16))), (33, (.agg #[(iv ((rdD p0 x151 z_Tile).N)), (iv ((rdD p0 x151 z_Tile).E)), (iv ((rdD p0 x151 z_Tile).S)), (iv ((rdD p0 x151 z_Tile).W))]))] [.cell ⟨g160, 0, none⟩ (iv ((rdD p0 x151 z_Tile).N)), .cell ⟨g160, 1, none⟩ (iv ((rdD p0 x151 z_Tile).E)), .cell ⟨g160, 2, none⟩ (iv ((rdD p0 x151 z_Tile).S)), .cell ⟨g160, 3, none⟩ (iv ((rdD p0 x151 z_Tile).W))] (fun fb => by kernel_rfl) rfl ⟨hS193.cell 1 rfl 0 rfl, hS193.cell 1 rfl 1 rfl, hS193.cell 1 rfl 2 rfl, hS193.cell 1 rfl 3 rfl, trivial⟩ ?_
    refine WL.mapput hS193 0 (t := 100) (kT := 24) (eT := 4) (kE := (aggI ints_Tile)) (vE := vB) (l := l150) rfl (rdD p0 x151 z_Tile) true (fun fb => by kernel_rfl) tile_Valid_key24 (by kernel_rfl) [1] (by decide) (by decide) (fun w196 hS197 => ?_)
    refine ⟨trivial, ?_⟩
    refine WL.done rfl ?_
    refine WX.blockN (WX.next ?_)
    refine WC.region ?_
    refine seg 2 [] [3, 10, 11, 12] [(3, (.map (some g16))), (10, (.slice A_p0 p0.length c_p0)), (11, (iv (p0.length : Int))), (12, (iv (w64 (x151 + 1))))] [] (fun fb => by kernel_rfl) rfl trivial ?_
    refine WL.done rfl ?_
    exact WX.again k154 (Nat.lt_succ_self _) (mput (rdD p0 x151 z_Tile) true l150, w64 (x151 + 1)) [3, 10, 11, 12] rfl ⟨(hS197.subR [0]).sub [0] (by decide), hl157⟩
   refine WC.condF2 (fun fb => by kernel_rfl) h158 ?_
   refine WC.exit ?_
   injection hl157 with hl157
   exact WX.thenX (WX.thenX (WX.blockHere (WX.to Kx152 () [] rfl ⟨(hS156.subR [0]).sub [] (by decide), hl157.symm⟩)))
 rintro y201 w198 ⟨hS199, hq200⟩
 subst hq200
 have hf := sum_inr hf
 refine WX.next ?_
 refine WC.seq ?_
 refine WC.region ?_
 refine seg 1 [] [2] [(2, (.bool true))] [] (fun fb => by kernel_rfl) rfl trivial ?_
 refine WL.done rfl ?_
 refine WX.next ?_
 refine WC.ret ?_
 injection hf with hf
 subst hf
 exact WX.ret_ [] (.bool true) [] (fun fb => by kernel_rfl) trivial ⟨_, rfl, rfl, hS199.keep⟩
theorem decide_asks_calls (k : Nat) (p0 : List Tile) (A_p0 : Option Addr) (c_p0 : Nat) (r : Int) (w : World) (hR0 : RO NoS w (rowR enc_Tile A_p0 c_p0 p0)) (hf : decide_asks k p0 = some r) :
  CallsR Try.prog 43 #[(.slice A_p0 p0.length c_p0)] w (fun v w' => v = (iv r) ∧ Keeps NoS w w') := by
 have hS : St NoS w w [rowR enc_Tile A_p0 c_p0 p0] [] := St.init (ro_cons hR0 (ro_nil _ _))
 refine enter 11 Try.func43 rfl Try.ntmps43 rfl ?_
 unfold decide_asks at hf
 refine WC.seq ?_
 refine WC.region ?_
 refine seg 1 [] [0] [(0, (.slice A_p0 p0.length c_p0))] [] (fun fb => by kernel_rfl) rfl trivial ?_
 refine WL.done rfl ?_
 refine WX.next ?_
 refine WC.seq ?_
 refine WC.block ?_
 refine WC.seq ?_
 refine WC.region ?_
 refine seg 1 [] [0, 4] [(0, (.slice A_p0 p0.length c_p0)), (4, (.slice A_p0 p0.length c_p0))] [] (fun fb => by kernel_rfl) rfl trivial ?_
 obtain ⟨t203, ht204, hf⟩ := bind_some hf
 refine WL.call (some 5) 38 #[(.slice A_p0 p0.length c_p0)] (fun fb => by kernel_rfl) (tile_Valid_calls _ p0 A_p0 c_p0 t203 _ (hS.rd 0) ht204) (fun v w205 hR206 => ?_)
 obtain ⟨rfl, hk_⟩ := hR206
 have hS207 := hS.keepN hk_
 refine ⟨trivial, ?_⟩
 refine seg 4 [] [0, 3] [(0, (.slice A_p0 p0.length c_p0)), (3, (.bool (!t203)))] [] (fun fb => by kernel_rfl) rfl trivial ?_
 refine WL.done rfl ?_
 refine WX.next ?_
 rcases br_some hf with ⟨h208, hf⟩ | ⟨h208, hf⟩
 ·refine WC.condT2 (fun fb => by kernel_rfl) h208 ?_
  refine WC.seq ?_
  refine WC.region ?_
  refine seg 1 [] [2] [(2, (iv 1))] [] (fun fb => by kernel_rfl) rfl trivial ?_
  refine WL.done rfl ?_
  refine WX.next ?_
  refine WC.ret ?_
  injection hf with hf
  subst hf
  exact WX.blockR (WX.thenR (WX.ret_ [] (iv 1) [] (fun fb => by kernel_rfl) trivial ⟨_, rfl, rfl, hS207.keep⟩))
 refine WC.condF2 (fun fb => by kernel_rfl) h208 ?_
 refine WC.seq ?_
 refine WC.region ?_
 refine seg 4 [] [7] [(7, (.bool (decide ((p0.length : Int) > 3))))] [] (fun fb => by kernel_rfl) rfl trivial ?_
 refine WL.done rfl ?_
 refine WX.next ?_
 rcases br_some hf with ⟨h209, hf⟩ | ⟨h209, hf⟩
 ·refine WC.condT2 (fun fb => by kernel_rfl) h209 ?_
  refine WC.seq ?_
  refine WC.region ?_
  refine seg 1 [] [2] [(2, (iv 2))] [] (fun fb => by kernel_rfl) rfl trivial ?_
  refine WL.done rfl ?_
  refine WX.next ?_
  refine WC.ret ?_
  injection hf with hf
  subst hf
  exact WX.blockR (WX.thenR (WX.ret_ [] (iv 2) [] (fun fb => by kernel_rfl) trivial ⟨_, rfl, rfl, hS207.keep⟩))
 refine WC.condF2 (fun fb => by kernel_rfl) h209 ?_
 refine WC.skip ?_
 refine WX.blockN (WX.next ?_)
 refine WC.seq ?_
 refine WC.region ?_
 refine seg 1 [] [2] [(2, (iv 0))] [] (fun fb => by kernel_rfl) rfl trivial ?_
 refine WL.done rfl ?_
 refine WX.next ?_
 refine WC.ret ?_
 injection hf with hf
 subst hf
 exact WX.ret_ [] (iv 0) [] (fun fb => by kernel_rfl) trivial ⟨_, rfl, rfl, hS207.keep⟩
theorem decide_sides_calls (p0 : List Tile) (A_p0 : Option Addr) (c_p0 : Nat) (r : Unit) (w : World) (hR0 : RO NoS w (rowR enc_Tile A_p0 c_p0 p0)) (hf : decide_sides p0 = some r) :
  CallsR Try.prog 44 #[(.slice A_p0 p0.length c_p0)] w (fun v w' => ∃ (g1_ : Nat), v = (.func (.func 61) #[] #[(.pointer (some ⟨g1_, 0, none⟩))]) ∧ St NoS w w' [] [blk g1_ (.cells #[(.slice A_p0 p0.length c_p0)] 22 (0, 0))]) := by
 have hS : St NoS w w [rowR enc_Tile A_p0 c_p0 p0] [] := St.init (ro_cons hR0 (ro_nil _ _))
 refine enter 4 Try.func44 rfl Try.ntmps44 rfl ?_
 unfold decide_sides at hf
 refine WC.seq ?_
 refine WC.region ?_
 refine WL.new hS 1 [] (fun g => (.pointer (some ⟨g, 0, none⟩))) (.cells #[(.slice A_p0 p0.length c_p0)] 22 (0, 0)) [] (fun fb g => by kernel_rfl) trivial (fun g221 w222 hS223 => ?_)
 refine ⟨trivial, ?_⟩
 refine seg 2 [] [1] [(1, (pt g221))] [] (fun fb => by kernel_rfl) rfl trivial ?_
 refine WL.done rfl ?_
 refine WX.next ?_
 refine WC.seq ?_
 refine WC.region ?_
 refine seg 2 [] [2] [(2, (.func (.func 61) #[] #[(pt g221)]))] [] (fun fb => by kernel_rfl) rfl trivial ?_
 refine WL.done rfl ?_
 refine WX.next ?_
 refine WC.ret ?_
 injection hf with hf
 subst hf
 exact WX.ret_ [] (.func (.func 61) #[] #[(pt g221)]) [] (fun fb => by kernel_rfl) trivial ⟨_, rfl, g221, rfl, (hS223.sub [0] (by decide)).noR⟩
theorem rows_Few_calls (k : Nat) (p0 : List Tile) (p1 : Int) (A_p0 : Option Addr) (c_p0 : Nat) (r : Bool) (w : World) (hR0 : RO NoS w (rowR enc_Tile A_p0 c_p0 p0)) (hf : rows_Few k p0 p1 = some r) :
  CallsR Try.prog 45 #[(.slice A_p0 p0.length c_p0), (iv p1)] w (fun v w' => v = (.bool r) ∧ Keeps NoS w w') := by
 have hS : St NoS w w [rowR enc_Tile A_p0 c_p0 p0] [] := St.init (ro_cons hR0 (ro_nil _ _))
 refine enter 17 Try.func45 rfl Try.ntmps45 rfl ?_
 unfold rows_Few at hf
 refine WC.seq ?_
 refine WC.region ?_
 refine seg 1 [] [0, 1] [(0, (.slice A_p0 p0.length c_p0)), (1, (iv p1))] [] (fun fb => by kernel_rfl) rfl trivial ?_
 refine WL.done rfl ?_
 refine WX.next ?_
 refine WC.seq ?_
 refine WC.region ?_
 refine seg 1 [] [0, 1, 5] [(0, (.slice A_p0 p0.length c_p0)), (1, (iv p1)), (5, (iv 1))] [] (fun fb => by kernel_rfl) rfl trivial ?_
 refine WL.done rfl ?_
 refine WX.next ?_
 refine WC.seq ?_
 refine WC.seq ?_
 refine WC.region ?_
 refine seg 2 [] [0, 5, 6, 7] [(0, (.slice A_p0 p0.length c_p0)), (5, (iv 1)), (6, (iv p1)), (7, (iv 0))] [] (fun fb => by kernel_rfl) rfl trivial ?_
 refine WL.done rfl ?_
 refine WX.next ?_
 obtain ⟨x296, hx297, hf⟩ := bind_some hf
 refine WC.cutN (T := Unit) (fun t => []) (fun t w1 => St NoS w w1 [rowR enc_Tile A_p0 c_p0 p0] [] ∧ x296 = .inr t) (fun Kx296 => ?_) ?_
 ·
  refine WC.block ?_
  refine WC.loop (T := Int × Int) (fun t => [(0, (.slice A_p0 p0.length c_p0)), (5, (iv t.1)), (6, (iv p1)), (7, (iv t.2))]) (fun n t w1 => St NoS w w1 [rowR enc_Tile A_p0 c_p0 p0] [] ∧ rows_Few.l0 n t.1 t.2 p0 p1 = some x296) k (1, 0) [0, 5, 6, 7] rfl ⟨(hS.subR [0]).sub [] (by decide), hx297⟩ ?_
  rintro k298 ⟨x294, x295⟩ w299 ⟨hS300, hl301⟩
  cases k298 with
  | zero => rw [rows_Few.l0] at hl301; cases hl301
  | succ k298 =>
   rw [rows_Few.l0] at hl301
   refine WC.seq ?_
   refine WC.region ?_
   refine seg 1 [] [0, 5, 6, 7, 8] [(0, (.slice A_p0 p0.length c_p0)), (5, (iv x294)), (6, (iv p1)), (7, (iv x295)), (8, (.bool (decide (x295 < p1))))] [] (fun fb => by kernel_rfl) rfl trivial ?_
   refine WL.done rfl ?_
   refine WX.next ?_
   refine WC.seq ?_
   rcases br_some hl301 with ⟨h302, hl301⟩ | ⟨h302, hl301⟩
   ·refine WC.condT2 (fun fb => by kernel_rfl) h302 ?_
    refine WC.skip ?_
    refine WX.next ?_
    refine WC.seq ?_
    refine WC.block ?_
    refine WC.seq ?_
    refine WC.region ?_
    refine seg 6 [] [0, 5, 6, 7] [(0, (.slice A_p0 p0.length c_p0)), (5, (iv (w64 (x294 * (maxI (p0.length : Int) 1))))), (6, (iv p1)), (7, (iv x295))] [] (fun fb => by kernel_rfl) rfl trivial ?_
    refine WL.done rfl ?_
    refine WX.next ?_
    refine WC.seq ?_
    refine WC.region ?_
    refine seg 2 [] [0, 5, 6, 7, 15] [(0, (.slice A_p0 p0.length c_p0)), (5, (iv (w64 (x294 * (maxI (p0.length : Int) 1))))), (6, (iv p1)), (7, (iv x295)), (15, (.bool (decide (w64 (x294 * (maxI (p0.length : Int) 1)) > 5000))))] [] (fun fb => by kernel_rfl) rfl trivial ?_
    refine WL.done rfl ?_
    refine WX.next ?_
    rcases br_some hl301 with ⟨h303, hl301⟩ | ⟨h303, hl301⟩
    ·refine WC.condT2 (fun fb => by kernel_rfl) h303 ?_
     refine WC.seq ?_
     refine WC.region ?_
     refine seg 1 [] [4] [(4, (.bool false))] [] (fun fb => by kernel_rfl) rfl trivial ?_
     refine WL.done rfl ?_
     refine WX.next ?_
     refine WC.ret ?_
     injection hl301 with hl301
     subst hl301
     injection hf with hf
     subst hf
     exact WX.blockR (WX.thenR (WX.thenR (WX.blockR (WX.thenR (WX.ret_ [] (.bool false) [] (fun fb => by kernel_rfl) trivial ⟨_, rfl, rfl, hS300.keep⟩)))))
    refine WC.condF2 (fun fb => by kernel_rfl) h303 ?_
    refine WC.skip ?_
    refine WX.blockN (WX.next ?_)
    refine WC.region ?_
    refine seg 2 [] [0, 5, 6, 7] [(0, (.slice A_p0 p0.length c_p0)), (5, (iv (w64 (x294 * (maxI (p0.length : Int) 1))))), (6, (iv p1)), (7, (iv (w64 (x295 + 1))))] [] (fun fb => by kernel_rfl) rfl trivial ?_
    refine WL.done rfl ?_
    exact WX.again k298 (Nat.lt_succ_self _) (w64 (x294 * (maxI (p0.length : Int) 1)), w64 (x295 + 1)) [0, 5, 6, 7] rfl ⟨(hS300.subR [0]).sub [] (by decide), hl301⟩
   refine WC.condF2 (fun fb => by kernel_rfl) h302 ?_
   refine WC.exit ?_
   injection hl301 with hl301
   exact WX.thenX (WX.thenX (WX.blockHere (WX.to Kx296 () [] rfl ⟨(hS300.subR [0]).sub [] (by decide), hl301.symm⟩)))
 rintro y307 w304 ⟨hS305, hq306⟩
 subst hq306
 have hf := sum_inr hf
 refine WX.next ?_
 refine WC.seq ?_
 refine WC.region ?_
 refine seg 1 [] [4] [(4, (.bool true))] [] (fun fb => by kernel_rfl) rfl trivial ?_
 refine WL.done rfl ?_
 refine WX.next ?_
 refine WC.ret ?_
 injection hf with hf
 subst hf
 exact WX.ret_ [] (.bool true) [] (fun fb => by kernel_rfl) trivial ⟨_, rfl, rfl, hS305.keep⟩
theorem square_check_calls (k : Nat) (p0 : List Tile) (p1 : Int) (A_p0 : Option Addr) (c_p0 : Nat) (r : Int) (w : World) (hR0 : RO NoS w (rowR enc_Tile A_p0 c_p0 p0)) (hf : square_check k p0 p1 = some r) :
  CallsR Try.prog 41 #[(.slice A_p0 p0.length c_p0), (iv p1)] w (fun v w' => v = (iv r) ∧ Keeps NoS w w') := by
 have hS : St NoS w w [rowR enc_Tile A_p0 c_p0 p0] [] := St.init (ro_cons hR0 (ro_nil _ _))
 refine enter 21 Try.func41 rfl Try.ntmps41 rfl ?_
 unfold square_check at hf
 refine WC.seq ?_
 refine WC.region ?_
 refine seg 1 [] [0, 1] [(0, (.slice A_p0 p0.length c_p0)), (1, (iv p1))] [] (fun fb => by kernel_rfl) rfl trivial ?_
 refine WL.done rfl ?_
 refine WX.next ?_
 refine WC.seq ?_
 refine WC.block ?_
 refine WC.seq ?_
 refine WC.region ?_
 refine seg 1 [] [0, 1, 6] [(0, (.slice A_p0 p0.length c_p0)), (1, (iv p1)), (6, (.slice A_p0 p0.length c_p0))] [] (fun fb => by kernel_rfl) rfl trivial ?_
 obtain ⟨t279, ht280, hf⟩ := bind_some hf
 refine WL.call (some 7) 38 #[(.slice A_p0 p0.length c_p0)] (fun fb => by kernel_rfl) (tile_Valid_calls _ p0 A_p0 c_p0 t279 _ (hS.rd 0) ht280) (fun v w281 hR282 => ?_)
 obtain ⟨rfl, hk_⟩ := hR282
 have hS283 := hS.keepN hk_
 refine ⟨trivial, ?_⟩
 refine seg 4 [] [0, 1, 5] [(0, (.slice A_p0 p0.length c_p0)), (1, (iv p1)), (5, (.bool (!t279)))] [] (fun fb => by kernel_rfl) rfl trivial ?_
 refine WL.done rfl ?_
 refine WX.next ?_
 rcases br_some hf with ⟨h284, hf⟩ | ⟨h284, hf⟩
 ·refine WC.condT2 (fun fb => by kernel_rfl) h284 ?_
  refine WC.seq ?_
  refine WC.region ?_
  refine seg 1 [] [4] [(4, (iv 1))] [] (fun fb => by kernel_rfl) rfl trivial ?_
  refine WL.done rfl ?_
  refine WX.next ?_
  refine WC.ret ?_
  injection hf with hf
  subst hf
  exact WX.blockR (WX.thenR (WX.ret_ [] (iv 1) [] (fun fb => by kernel_rfl) trivial ⟨_, rfl, rfl, hS283.keep⟩))
 refine WC.condF2 (fun fb => by kernel_rfl) h284 ?_
 refine WC.seq ?_
 refine WC.region ?_
 refine seg 3 [] [0, 1, 12] [(0, (.slice A_p0 p0.length c_p0)), (1, (iv p1)), (12, (.bool (decide (p1 < 1))))] [] (fun fb => by kernel_rfl) rfl trivial ?_
 refine WL.cutV (T := Bool) 6 (fun t => [(15, (.bool t)), (0, (.slice A_p0 p0.length c_p0)), (1, (iv p1))]) (fun t => ((decide (p1 < 1)) || (decide (p1 > 8))) = t) (fun K => ?_) ?_
 ·
  rcases Bool.eq_false_or_eq_true (decide (p1 < 1)) with h285 | h285
  ·
   refine WL.setB 12 h285 rfl ?_
   refine seg 6 [] [0, 1, 15] [(0, (.slice A_p0 p0.length c_p0)), (1, (iv p1)), (15, (.bool true))] [] (fun fb => by kernel_rfl) rfl trivial ?_
   exact WL.toV K true [15, 0, 1] rfl (by first | (rw [h285]; done) | (rw [h285]; rfl))
  refine WL.setB 12 h285 rfl ?_
  refine seg 6 [] [0, 1, 15] [(0, (.slice A_p0 p0.length c_p0)), (1, (iv p1)), (15, (.bool (decide (p1 > 8))))] [] (fun fb => by kernel_rfl) rfl trivial ?_
  exact WL.toV K (decide (p1 > 8)) [15, 0, 1] rfl (by first | (rw [h285]; done) | (rw [h285]; rfl))
 rintro b286 rfl
 refine seg 7 [] [0, 1, 9] [(0, (.slice A_p0 p0.length c_p0)), (1, (iv p1)), (9, (.bool ((decide (p1 < 1)) || (decide (p1 > 8)))))] [] (fun fb => by kernel_rfl) rfl trivial ?_
 refine WL.done rfl ?_
 refine WX.next ?_
 rcases br_some hf with ⟨h287, hf⟩ | ⟨h287, hf⟩
 ·refine WC.condT2 (fun fb => by kernel_rfl) h287 ?_
  refine WC.seq ?_
  refine WC.region ?_
  refine seg 1 [] [4] [(4, (iv 2))] [] (fun fb => by kernel_rfl) rfl trivial ?_
  refine WL.done rfl ?_
  refine WX.next ?_
  refine WC.ret ?_
  injection hf with hf
  subst hf
  exact WX.blockR (WX.thenR (WX.ret_ [] (iv 2) [] (fun fb => by kernel_rfl) trivial ⟨_, rfl, rfl, hS283.keep⟩))
 refine WC.condF2 (fun fb => by kernel_rfl) h287 ?_
 refine WC.seq ?_
 refine WC.region ?_
 refine seg 2 [] [17, 18] [(17, (.slice A_p0 p0.length c_p0)), (18, (iv p1))] [] (fun fb => by kernel_rfl) rfl trivial ?_
 obtain ⟨t309, ht310, hf⟩ := bind_some hf
 refine WL.call (some 19) 45 #[(.slice A_p0 p0.length c_p0), (iv p1)] (fun fb => by kernel_rfl) (rows_Few_calls _ p0 p1 A_p0 c_p0 t309 _ (hS283.rd 0) ht310) (fun v w311 hR312 => ?_)
 obtain ⟨rfl, hk_⟩ := hR312
 have hS313 := hS283.keepN hk_
 refine ⟨trivial, ?_⟩
 refine seg 5 [] [16] [(16, (.bool (!t309)))] [] (fun fb => by kernel_rfl) rfl trivial ?_
 refine WL.done rfl ?_
 refine WX.next ?_
 rcases br_some hf with ⟨h314, hf⟩ | ⟨h314, hf⟩
 ·refine WC.condT2 (fun fb => by kernel_rfl) h314 ?_
  refine WC.seq ?_
  refine WC.region ?_
  refine seg 1 [] [4] [(4, (iv 4))] [] (fun fb => by kernel_rfl) rfl trivial ?_
  refine WL.done rfl ?_
  refine WX.next ?_
  refine WC.ret ?_
  injection hf with hf
  subst hf
  exact WX.blockR (WX.thenR (WX.ret_ [] (iv 4) [] (fun fb => by kernel_rfl) trivial ⟨_, rfl, rfl, hS313.keep⟩))
 refine WC.condF2 (fun fb => by kernel_rfl) h314 ?_
 refine WC.skip ?_
 refine WX.blockN (WX.next ?_)
 refine WC.seq ?_
 refine WC.region ?_
 refine seg 1 [] [4] [(4, (iv 0))] [] (fun fb => by kernel_rfl) rfl trivial ?_
 refine WL.done rfl ?_
 refine WX.next ?_
 refine WC.ret ?_
 injection hf with hf
 subst hf
 exact WX.ret_ [] (iv 0) [] (fun fb => by kernel_rfl) trivial ⟨_, rfl, rfl, hS313.keep⟩
theorem rows_rowOf_calls (k : Nat) (p0 : List Tile) (p1 : List Int) (A_p0 : Option Addr) (c_p0 : Nat) (A_p1 : Option Addr) (c_p1 : Nat) (r : Row) (w : World) (hR0 : RO NoS w (rowR enc_Tile A_p0 c_p0 p0)) (hR1 : RO NoS w (rowR encInt A_p1 c_p1 p1)) (hf : rows_rowOf k p0 p1 = some r) :
  CallsR Try.prog 83 #[(.slice A_p0 p0.length c_p0), (.slice A_p1 p1.length c_p1)] w (fun v w' => ∃ (A1_ : Option Addr), ∃ (c1_ : Nat), v = (.agg #[(.slice A1_ r.Cells.length c1_), (iv r.South.e0), (iv r.South.e1), (iv r.South.e2), (iv r.South.e3), (iv r.South.e4), (iv r.South.e5), (iv r.South.e6), (iv r.South.e7), (iv r.North.e0), (iv r.North.e1), (iv r.North.e2), (iv r.North.e3), (iv r.North.e4), (iv r.North.e5), (iv r.North.e6), (iv r.North.e7), (iv r.West), (iv r.East)]) ∧ St NoS w w' [] [rowO 3 encInt A1_ c1_ r.Cells]) := by
 have hS : St NoS w w [rowR enc_Tile A_p0 c_p0 p0, rowR encInt A_p1 c_p1 p1] [] := St.init (ro_cons hR0 (ro_cons hR1 (ro_nil _ _)))
 refine enter 55 Try.func83 rfl Try.ntmps83 rfl ?_
 unfold rows_rowOf at hf
 refine WC.seq ?_
 refine WC.region ?_
 refine WL.new hS 4 [] (fun g => (.pointer (some ⟨g, 0, none⟩))) (.cells #[(.slice none 0 0), (iv 0), (iv 0), (iv 0), (iv 0), (iv 0), (iv 0), (iv 0), (iv 0), (iv 0), (iv 0), (iv 0), (iv 0), (iv 0), (iv 0), (iv 0), (iv 0), (iv 0), (iv 0)] 88 (0, 0)) [] (fun fb g => by kernel_rfl) trivial (fun g433 w434 hS435 => ?_)
 refine ⟨trivial, ?_⟩
 refine WL.done rfl ?_
 refine WX.next ?_
 refine WC.seq ?_
 refine WC.region ?_
 refine seg 1 [] [0, 1, 4, 8] [(0, (.slice A_p0 p0.length c_p0)), (1, (.slice A_p1 p1.length c_p1)), (4, (pt g433)), (8, (.slice A_p1 p1.length c_p1))] [] (fun fb => by kernel_rfl) rfl trivial ?_
 have hS437 := hS435.nilrow 3 encInt
 obtain ⟨h438, hf⟩ := as_some hf
 refine WL.append hS437 0 (d := 9) (tS := 36) (z := (iv 0)) (bytes := 8) (c2 := c_p1) rfl (fun fb => by kernel_rfl) (hS437.rd 1).1 (by kernel_rfl) (by kernel_rfl) rfl (by decide) h438 (by decide) [1] (by decide) (by decide) (fun A439 c440 w441 hS442 => ?_)
 refine ⟨trivial, ?_⟩
 refine seg 3 [] [0, 1, 4, 10] [(0, (.slice A_p0 p0.length c_p0)), (1, (.slice A_p1 p1.length c_p1)), (4, (pt g433)), (10, (.agg #[(.slice A439 (([] : List Int) ++ p1).length c440), (iv 0), (iv 0), (iv 0), (iv 0), (iv 0), (iv 0), (iv 0), (iv 0), (iv 0), (iv 0), (iv 0), (iv 0), (iv 0), (iv 0), (iv 0), (iv 0), (iv 0), (iv 0)]))] [] (fun fb => by kernel_rfl) rfl trivial ?_
 refine WL.new hS442 5 [] (fun g => (.pointer (some ⟨g, 0, none⟩))) (.cells #[(.slice none 0 0), (iv 0), (iv 0), (iv 0), (iv 0), (iv 0), (iv 0), (iv 0), (iv 0), (iv 0), (iv 0), (iv 0), (iv 0), (iv 0), (iv 0), (iv 0), (iv 0), (iv 0), (iv 0)] 88 (0, 0)) [] (fun fb g => by kernel_rfl) trivial (fun g443 w444 hS445 => ?_)
 refine ⟨trivial, ?_⟩
 refine WL.store hS445 0 rfl [(0, (.slice A439 (([] : List Int) ++ p1).length c440)), (1, (iv 0)), (2, (iv 0)), (3, (iv 0)), (4, (iv 0)), (5, (iv 0)), (6, (iv 0)), (7, (iv 0)), (8, (iv 0)), (9, (iv 0)), (10, (iv 0)), (11, (iv 0)), (12, (iv 0)), (13, (iv 0)), (14, (iv 0)), (15, (iv 0)), (16, (iv 0)), (17, (iv 0)), (18, (iv 0))] #[(.slice A439 (([] : List Int) ++ p1).length c440), (iv 0), (iv 0), (iv 0), (iv 0), (iv 0), (iv 0), (iv 0), (iv 0), (iv 0), (iv 0), (iv 0), (iv 0), (iv 0), (iv 0), (iv 0), (iv 0), (iv 0), (iv 0)] (fun fb => by kernel_rfl) (by kernel_rfl) (by kernel_rfl) [1, 2] (by decide) (by decide) (fun w447 hS448 => ?_)
 refine ⟨trivial, ?_⟩
 refine WL.done rfl ?_
 refine WX.next ?_
 refine WC.seq ?_
 refine WC.seq ?_
 refine WC.region ?_
 refine seg 3 [] [0, 1, 4, 5, 11, 12, 13] [(0, (.slice A_p0 p0.length c_p0)), (1, (.slice A_p1 p1.length c_p1)), (4, (pt g433)), (5, (pt g443)), (11, (.slice A_p1 p1.length c_p1)), (12, (iv (p1.length : Int))), (13, (iv 0))] [] (fun fb => by kernel_rfl) rfl trivial ?_
 refine WL.done rfl ?_
 refine WX.next ?_
 obtain ⟨x527, hx528, hf⟩ := bind_some hf
 refine WC.cutN (T := A8_Int × A8_Int) (fun t => [(0, (.slice A_p0 p0.length c_p0)), (1, (.slice A_p1 p1.length c_p1)), (4, (pt g433)), (5, (pt g443))]) (fun t w1 => St NoS w w1 [rowR enc_Tile A_p0 c_p0 p0, rowR encInt A_p1 c_p1 p1] [blk g433 (.cells #[(.slice none 0 0), (iv 0), (iv 0), (iv 0), (iv 0), (iv 0), (iv 0), (iv 0), (iv 0), (iv 0), (iv 0), (iv 0), (iv 0), (iv 0), (iv 0), (iv 0), (iv 0), (iv 0), (iv 0)] 88 (0, 0)), blk g443 (.cells #[(.slice A439 (([] : List Int) ++ p1).length c440), (iv t.1.e0), (iv t.1.e1), (iv t.1.e2), (iv t.1.e3), (iv t.1.e4), (iv t.1.e5), (iv t.1.e6), (iv t.1.e7), (iv t.2.e0), (iv t.2.e1), (iv t.2.e2), (iv t.2.e3), (iv t.2.e4), (iv t.2.e5), (iv t.2.e6), (iv t.2.e7), (iv 0), (iv 0)] 88 (0, 0)), rowO 3 encInt A439 c440 (([] : List Int) ++ p1)] ∧ x527 = t) (fun Kx527 => ?_) ?_
 ·
  refine WC.block ?_
  refine WC.loop (T := A8_Int × A8_Int × Int) (fun t => [(0, (.slice A_p0 p0.length c_p0)), (1, (.slice A_p1 p1.length c_p1)), (4, (pt g433)), (5, (pt g443)), (11, (.slice A_p1 p1.length c_p1)), (12, (iv (p1.length : Int))), (13, (iv t.2.2))]) (fun n t w1 => St NoS w w1 [rowR enc_Tile A_p0 c_p0 p0, rowR encInt A_p1 c_p1 p1] [blk g433 (.cells #[(.slice none 0 0), (iv 0), (iv 0), (iv 0), (iv 0), (iv 0), (iv 0), (iv 0), (iv 0), (iv 0), (iv 0), (iv 0), (iv 0), (iv 0), (iv 0), (iv 0), (iv 0), (iv 0), (iv 0)] 88 (0, 0)), blk g443 (.cells #[(.slice A439 (([] : List Int) ++ p1).length c440), (iv t.1.e0), (iv t.1.e1), (iv t.1.e2), (iv t.1.e3), (iv t.1.e4), (iv t.1.e5), (iv t.1.e6), (iv t.1.e7), (iv t.2.1.e0), (iv t.2.1.e1), (iv t.2.1.e2), (iv t.2.1.e3), (iv t.2.1.e4), (iv t.2.1.e5), (iv t.2.1.e6), (iv t.2.1.e7), (iv 0), (iv 0)] 88 (0, 0)), rowO 3 encInt A439 c440 (([] : List Int) ++ p1)] ∧ rows_rowOf.l0 n t.1 t.2.1 t.2.2 p0 p1 = some x527) k ((A8_Int.mk 0 0 0 0 0 0 0 0), (A8_Int.mk 0 0 0 0 0 0 0 0), 0) [0, 1, 4, 5, 11, 12, 13] rfl ⟨(hS448.subR [0, 1]).sub [2, 0, 1] (by decide), hx528⟩ ?_
  rintro k529 ⟨a522, a523, x524⟩ w530 ⟨hS531, hl532⟩
  cases k529 with
  | zero => rw [rows_rowOf.l0] at hl532; cases hl532
  | succ k529 =>
   rw [rows_rowOf.l0] at hl532
   refine WC.seq ?_
   refine WC.region ?_
   refine seg 1 [] [0, 1, 4, 5, 11, 12, 13, 14] [(0, (.slice A_p0 p0.length c_p0)), (1, (.slice A_p1 p1.length c_p1)), (4, (pt g433)), (5, (pt g443)), (11, (.slice A_p1 p1.length c_p1)), (12, (iv (p1.length : Int))), (13, (iv x524)), (14, (.bool (decide (x524 < (p1.length : Int)))))] [] (fun fb => by kernel_rfl) rfl trivial ?_
   refine WL.done rfl ?_
   refine WX.next ?_
   refine WC.seq ?_
   rcases br_some hl532 with ⟨h533, hl532⟩ | ⟨h533, hl532⟩
   ·refine WC.condT2 (fun fb => by kernel_rfl) h533 ?_
    refine WC.skip ?_
    refine WX.next ?_
    refine WC.seq ?_
    refine WC.block ?_
    refine WC.seq ?_
    refine WC.region ?_
    refine seg 1 [] [0, 1, 4, 5, 11, 12, 13, 15] [(0, (.slice A_p0 p0.length c_p0)), (1, (.slice A_p1 p1.length c_p1)), (4, (pt g433)), (5, (pt g443)), (11, (.slice A_p1 p1.length c_p1)), (12, (iv (p1.length : Int))), (13, (iv x524)), (15, (iv x524))] [] (fun fb => by kernel_rfl) rfl trivial ?_
    obtain ⟨h534, hl532⟩ := as_some hl532
    refine seg 5 [.v (iv (rdD p1 x524 0))] [0, 1, 4, 5, 6, 7, 11, 12, 13] [(0, (.slice A_p0 p0.length c_p0)), (1, (.slice A_p1 p1.length c_p1)), (4, (pt g433)), (5, (pt g443)), (6, (iv x524)), (7, (iv (rdD p1 x524 0))), (11, (.slice A_p1 p1.length c_p1)), (12, (iv (p1.length : Int))), (13, (iv x524))] [.idx A_p1 x524 p1.length, .cell ((adr A_p1).add ((x524).toNat * 1)) (iv (rdD p1 x524 0))] (fun fb => by kernel_rfl) rfl ⟨rowR.adr (hS531.rd 1).1 h534.1 h534.2, rowR.cell (hS531.rd 1).1 0 h534.1 h534.2 0 rfl, trivial⟩ ?_
    refine WL.done rfl ?_
    refine WX.next ?_
    obtain ⟨h549, hl532⟩ := as_some hl532
    obtain ⟨h550, hl532⟩ := as_some hl532
    refine WC.regionD ([(6, (((adr A_p0).add (((rdD p1 x524 0)).toNat * 4)).add 2), (iv ((rdD p0 (rdD p1 x524 0) z_Tile).S))), (11, ((adr A_p0).add (((rdD p1 x524 0)).toNat * 4)), (iv ((rdD p0 (rdD p1 x524 0) z_Tile).N)))], [0, 1, 2, 3, 4, 5, 6, 7, 8, 9, 10, 11, 12, 13, 15, 16], [[], [], [], [], [2, 3], [2, 3, 4], [2, 3, 4, 5], [], [], [7, 8], [7, 8, 9], [7, 8, 9, 10], [], [0, 2, 3, 4, 5, 6, 12], [0, 2, 3, 4, 5, 6, 12, 13], [], [0, 1, 2, 3, 4, 5, 6, 7, 8, 9, 10, 11, 12, 13, 14, 15], [0, 1, 2, 3, 4, 5, 6, 7, 8, 9, 10, 11, 12, 13, 14, 15, 16]]) [[0, 1, 2, 3, 4, 5, 6, 7, 8, 9, 10, 11, 12, 13, 15, 14, 16, 17]] (by kernel_rfl) (by kernel_rfl) (NoPanic.block (NoPanic.seq (NoPanic.seq (NoPanic.block (NoPanic.seq (NoPanic.body)))))) ?_
    have hS546 := hS531.drew
    revert hS546
    generalize World.drew w530 = w545
    intro hS546
    refine ⟨⟨rowR.cell (hS546.rd 0).1 z_Tile h549.1 h549.2 2 rfl, rowR.cell (hS546.rd 0).1 z_Tile h549.1 h549.2 0 rfl, trivial⟩, forallC ?_ (forallN)⟩
    refine segF 15 [.v (iv ((rdD p0 (rdD p1 x524 0) z_Tile).S)), .v (iv ((rdD p0 (rdD p1 x524 0) z_Tile).N))] [0, 1, 4, 5, 11, 12, 13, 19, 24, 29, 31, 32] [(0, (.slice A_p0 p0.length c_p0)), (1, (.slice A_p1 p1.length c_p1)), (4, (pt g433)), (5, (pt g443)), (11, (.slice A_p1 p1.length c_p1)), (12, (iv (p1.length : Int))), (13, (iv x524)), (19, (iv x524)), (24, (iv ((rdD p0 (rdD p1 x524 0) z_Tile).S))), (29, (iv ((rdD p0 (rdD p1 x524 0) z_Tile).N))), (31, (.pointer (some (flatA ⟨g443, 1, none⟩ (x524.toNat * 1))))), (32, (.pointer (some ⟨g443, 9, none⟩)))] [.idx A_p0 (rdD p1 x524 0) p0.length, .idx A_p0 (rdD p1 x524 0) p0.length, .idx (some ⟨0, 0, none⟩) x524 8] [0, 1] [(6, (((adr A_p0).add (((rdD p1 x524 0)).toNat * 4)).add 2), (iv ((rdD p0 (rdD p1 x524 0) z_Tile).S))), (11, ((adr A_p0).add (((rdD p1 x524 0)).toNat * 4)), (iv ((rdD p0 (rdD p1 x524 0) z_Tile).N)))] (fun fb => by kernel_rfl) rfl ⟨rowR.adr (hS546.rd 0).1 h549.1 h549.2, rowR.adr (hS546.rd 0).1 h549.1 h549.2, ⟨h550.1, h550.2, rfl⟩, trivial⟩ rfl ?_
    have h553 := (cases8 (Q := fun z_ => (([(1 + z_.toNat * 1, (iv ((rdD p0 (rdD p1 x524 0) z_Tile).S)))] : List (Nat × Value)).all fun p_ => Nat.blt p_.1 (#[(.slice A439 (([] : List Int) ++ p1).length c440), (iv a522.e0), (iv a522.e1), (iv a522.e2), (iv a522.e3), (iv a522.e4), (iv a522.e5), (iv a522.e6), (iv a522.e7), (iv a523.e0), (iv a523.e1), (iv a523.e2), (iv a523.e3), (iv a523.e4), (iv a523.e5), (iv a523.e6), (iv a523.e7), (iv 0), (iv 0)] : Array Value).size) = true) h550 (by kernel_rfl) (by kernel_rfl) (by kernel_rfl) (by kernel_rfl) (by kernel_rfl) (by kernel_rfl) (by kernel_rfl) (by kernel_rfl))
    have h554 := (cases8 (Q := fun z_ => wrc (#[(.slice A439 (([] : List Int) ++ p1).length c440), (iv a522.e0), (iv a522.e1), (iv a522.e2), (iv a522.e3), (iv a522.e4), (iv a522.e5), (iv a522.e6), (iv a522.e7), (iv a523.e0), (iv a523.e1), (iv a523.e2), (iv a523.e3), (iv a523.e4), (iv a523.e5), (iv a523.e6), (iv a523.e7), (iv 0), (iv 0)] : Array Value) [(1 + z_.toNat * 1, (iv ((rdD p0 (rdD p1 x524 0) z_Tile).S)))] = (#[(.slice A439 (([] : List Int) ++ p1).length c440), (iv ((A8_Int.set a522 z_ ((rdD p0 (rdD p1 x524 0) z_Tile).S)).e0)), (iv ((A8_Int.set a522 z_ ((rdD p0 (rdD p1 x524 0) z_Tile).S)).e1)), (iv ((A8_Int.set a522 z_ ((rdD p0 (rdD p1 x524 0) z_Tile).S)).e2)), (iv ((A8_Int.set a522 z_ ((rdD p0 (rdD p1 x524 0) z_Tile).S)).e3)), (iv ((A8_Int.set a522 z_ ((rdD p0 (rdD p1 x524 0) z_Tile).S)).e4)), (iv ((A8_Int.set a522 z_ ((rdD p0 (rdD p1 x524 0) z_Tile).S)).e5)), (iv ((A8_Int.set a522 z_ ((rdD p0 (rdD p1 x524 0) z_Tile).S)).e6)), (iv ((A8_Int.set a522 z_ ((rdD p0 (rdD p1 x524 0) z_Tile).S)).e7)), (iv a523.e0), (iv a523.e1), (iv a523.e2), (iv a523.e3), (iv a523.e4), (iv a523.e5), (iv a523.e6), (iv a523.e7), (iv 0), (iv 0)] : Array Value)) h550 (by kernel_rfl) (by kernel_rfl) (by kernel_rfl) (by kernel_rfl) (by kernel_rfl) (by kernel_rfl) (by kernel_rfl) (by kernel_rfl))
    refine WL.store hS546 1 rfl [(1 + x524.toNat * 1, (iv ((rdD p0 (rdD p1 x524 0) z_Tile).S)))] #[(.slice A439 (([] : List Int) ++ p1).length c440), (iv ((A8_Int.set a522 x524 ((rdD p0 (rdD p1 x524 0) z_Tile).S)).e0)), (iv ((A8_Int.set a522 x524 ((rdD p0 (rdD p1 x524 0) z_Tile).S)).e1)), (iv ((A8_Int.set a522 x524 ((rdD p0 (rdD p1 x524 0) z_Tile).S)).e2)), (iv ((A8_Int.set a522 x524 ((rdD p0 (rdD p1 x524 0) z_Tile).S)).e3)), (iv ((A8_Int.set a522 x524 ((rdD p0 (rdD p1 x524 0) z_Tile).S)).e4)), (iv ((A8_Int.set a522 x524 ((rdD p0 (rdD p1 x524 0) z_Tile).S)).e5)), (iv ((A8_Int.set a522 x524 ((rdD p0 (rdD p1 x524 0) z_Tile).S)).e6)), (iv ((A8_Int.set a522 x524 ((rdD p0 (rdD p1 x524 0) z_Tile).S)).e7)), (iv a523.e0), (iv a523.e1), (iv a523.e2), (iv a523.e3), (iv a523.e4), (iv a523.e5), (iv a523.e6), (iv a523.e7), (iv 0), (iv 0)] (fun fb => by kernel_rfl) h553 h554 [0, 2] (by decide) (by decide) (fun w551 hS552 => ?_)
    refine ⟨⟨rowR.cell (hS552.rd 0).1 z_Tile h549.1 h549.2 0 rfl, trivial⟩, ?_⟩
    refine seg 17 [] [0, 1, 4, 5, 11, 12, 13, 29, 33] [(0, (.slice A_p0 p0.length c_p0)), (1, (.slice A_p1 p1.length c_p1)), (4, (pt g433)), (5, (pt g443)), (11, (.slice A_p1 p1.length c_p1)), (12, (iv (p1.length : Int))), (13, (iv x524)), (29, (iv ((rdD p0 (rdD p1 x524 0) z_Tile).N))), (33, (.pointer (some (flatA ⟨g443, 9, none⟩ (x524.toNat * 1)))))] [.idx (some ⟨0, 0, none⟩) x524 8] (fun fb => by kernel_rfl) rfl ⟨⟨h550.1, h550.2, rfl⟩, trivial⟩ ?_
    have h557 := (cases8 (Q := fun z_ => (([(9 + z_.toNat * 1, (iv ((rdD p0 (rdD p1 x524 0) z_Tile).N)))] : List (Nat × Value)).all fun p_ => Nat.blt p_.1 (#[(.slice A439 (([] : List Int) ++ p1).length c440), (iv ((A8_Int.set a522 x524 ((rdD p0 (rdD p1 x524 0) z_Tile).S)).e0)), (iv ((A8_Int.set a522 x524 ((rdD p0 (rdD p1 x524 0) z_Tile).S)).e1)), (iv ((A8_Int.set a522 x524 ((rdD p0 (rdD p1 x524 0) z_Tile).S)).e2)), (iv ((A8_Int.set a522 x524 ((rdD p0 (rdD p1 x524 0) z_Tile).S)).e3)), (iv ((A8_Int.set a522 x524 ((rdD p0 (rdD p1 x524 0) z_Tile).S)).e4)), (iv ((A8_Int.set a522 x524 ((rdD p0 (rdD p1 x524 0) z_Tile).S)).e5)), (iv ((A8_Int.set a522 x524 ((rdD p0 (rdD p1 x524 0) z_Tile).S)).e6)), (iv ((A8_Int.set a522 x524 ((rdD p0 (rdD p1 x524 0) z_Tile).S)).e7)), (iv a523.e0), (iv a523.e1), (iv a523.e2), (iv a523.e3), (iv a523.e4), (iv a523.e5), (iv a523.e6), (iv a523.e7), (iv 0), (iv 0)] : Array Value).size) = true) h550 (by kernel_rfl) (by kernel_rfl) (by kernel_rfl) (by kernel_rfl) (by kernel_rfl) (by kernel_rfl) (by kernel_rfl) (by kernel_rfl))
    have h558 := (cases8 (Q := fun z_ => wrc (#[(.slice A439 (([] : List Int) ++ p1).length c440), (iv ((A8_Int.set a522 x524 ((rdD p0 (rdD p1 x524 0) z_Tile).S)).e0)), (iv ((A8_Int.set a522 x524 ((rdD p0 (rdD p1 x524 0) z_Tile).S)).e1)), (iv ((A8_Int.set a522 x524 ((rdD p0 (rdD p1 x524 0) z_Tile).S)).e2)), (iv ((A8_Int.set a522 x524 ((rdD p0 (rdD p1 x524 0) z_Tile).S)).e3)), (iv ((A8_Int.set a522 x524 ((rdD p0 (rdD p1 x524 0) z_Tile).S)).e4)), (iv ((A8_Int.set a522 x524 ((rdD p0 (rdD p1 x524 0) z_Tile).S)).e5)), (iv ((A8_Int.set a522 x524 ((rdD p0 (rdD p1 x524 0) z_Tile).S)).e6)), (iv ((A8_Int.set a522 x524 ((rdD p0 (rdD p1 x524 0) z_Tile).S)).e7)), (iv a523.e0), (iv a523.e1), (iv a523.e2), (iv a523.e3), (iv a523.e4), (iv a523.e5), (iv a523.e6), (iv a523.e7), (iv 0), (iv 0)] : Array Value) [(9 + z_.toNat * 1, (iv ((rdD p0 (rdD p1 x524 0) z_Tile).N)))] = (#[(.slice A439 (([] : List Int) ++ p1).length c440), (iv ((A8_Int.set a522 x524 ((rdD p0 (rdD p1 x524 0) z_Tile).S)).e0)), (iv ((A8_Int.set a522 x524 ((rdD p0 (rdD p1 x524 0) z_Tile).S)).e1)), (iv ((A8_Int.set a522 x524 ((rdD p0 (rdD p1 x524 0) z_Tile).S)).e2)), (iv ((A8_Int.set a522 x524 ((rdD p0 (rdD p1 x524 0) z_Tile).S)).e3)), (iv ((A8_Int.set a522 x524 ((rdD p0 (rdD p1 x524 0) z_Tile).S)).e4)), (iv ((A8_Int.set a522 x524 ((rdD p0 (rdD p1 x524 0) z_Tile).S)).e5)), (iv ((A8_Int.set a522 x524 ((rdD p0 (rdD p1 x524 0) z_Tile).S)).e6)), (iv ((A8_Int.set a522 x524 ((rdD p0 (rdD p1 x524 0) z_Tile).S)).e7)), (iv ((A8_Int.set a523 z_ ((rdD p0 (rdD p1 x524 0) z_Tile).N)).e0)), (iv ((A8_Int.set a523 z_ ((rdD p0 (rdD p1 x524 0) z_Tile).N)).e1)), (iv ((A8_Int.set a523 z_ ((rdD p0 (rdD p1 x524 0) z_Tile).N)).e2)), (iv ((A8_Int.set a523 z_ ((rdD p0 (rdD p1 x524 0) z_Tile).N)).e3)), (iv ((A8_Int.set a523 z_ ((rdD p0 (rdD p1 x524 0) z_Tile).N)).e4)), (iv ((A8_Int.set a523 z_ ((rdD p0 (rdD p1 x524 0) z_Tile).N)).e5)), (iv ((A8_Int.set a523 z_ ((rdD p0 (rdD p1 x524 0) z_Tile).N)).e6)), (iv ((A8_Int.set a523 z_ ((rdD p0 (rdD p1 x524 0) z_Tile).N)).e7)), (iv 0), (iv 0)] : Array Value)) h550 (by kernel_rfl) (by kernel_rfl) (by kernel_rfl) (by kernel_rfl) (by kernel_rfl) (by kernel_rfl) (by kernel_rfl) (by kernel_rfl))
    refine WL.store hS552 0 rfl [(9 + x524.toNat * 1, (iv ((rdD p0 (rdD p1 x524 0) z_Tile).N)))] #[(.slice A439 (([] : List Int) ++ p1).length c440), (iv ((A8_Int.set a522 x524 ((rdD p0 (rdD p1 x524 0) z_Tile).S)).e0)), (iv ((A8_Int.set a522 x524 ((rdD p0 (rdD p1 x524 0) z_Tile).S)).e1)), (iv ((A8_Int.set a522 x524 ((rdD p0 (rdD p1 x524 0) z_Tile).S)).e2)), (iv ((A8_Int.set a522 x524 ((rdD p0 (rdD p1 x524 0) z_Tile).S)).e3)), (iv ((A8_Int.set a522 x524 ((rdD p0 (rdD p1 x524 0) z_Tile).S)).e4)), (iv ((A8_Int.set a522 x524 ((rdD p0 (rdD p1 x524 0) z_Tile).S)).e5)), (iv ((A8_Int.set a522 x524 ((rdD p0 (rdD p1 x524 0) z_Tile).S)).e6)), (iv ((A8_Int.set a522 x524 ((rdD p0 (rdD p1 x524 0) z_Tile).S)).e7)), (iv ((A8_Int.set a523 x524 ((rdD p0 (rdD p1 x524 0) z_Tile).N)).e0)), (iv ((A8_Int.set a523 x524 ((rdD p0 (rdD p1 x524 0) z_Tile).N)).e1)), (iv ((A8_Int.set a523 x524 ((rdD p0 (rdD p1 x524 0) z_Tile).N)).e2)), (iv ((A8_Int.set a523 x524 ((rdD p0 (rdD p1 x524 0) z_Tile).N)).e3)), (iv ((A8_Int.set a523 x524 ((rdD p0 (rdD p1 x524 0) z_Tile).N)).e4)), (iv ((A8_Int.set a523 x524 ((rdD p0 (rdD p1 x524 0) z_Tile).N)).e5)), (iv ((A8_Int.set a523 x524 ((rdD p0 (rdD p1 x524 0) z_Tile).N)).e6)), (iv ((A8_Int.set a523 x524 ((rdD p0 (rdD p1 x524 0) z_Tile).N)).e7)), (iv 0), (iv 0)] (fun fb => by kernel_rfl) h557 h558 [1, 2] (by decide) (by decide) (fun w555 hS556 => ?_)
    refine ⟨trivial, ?_⟩
    refine WL.done rfl ?_
    refine WX.blockN (WX.next ?_)
    refine WC.region ?_
    refine seg 2 [] [0, 1, 4, 5, 11, 12, 13] [(0, (.slice A_p0 p0.length c_p0)), (1, (.slice A_p1 p1.length c_p1)), (4, (pt g433)), (5, (pt g443)), (11, (.slice A_p1 p1.length c_p1)), (12, (iv (p1.length : Int))), (13, (iv (w64 (x524 + 1))))] [] (fun fb => by kernel_rfl) rfl trivial ?_
    refine WL.done rfl ?_
    exact WX.again k529 (Nat.lt_succ_self _) ((A8_Int.set a522 x524 ((rdD p0 (rdD p1 x524 0) z_Tile).S)), (A8_Int.set a523 x524 ((rdD p0 (rdD p1 x524 0) z_Tile).N)), w64 (x524 + 1)) [0, 1, 4, 5, 11, 12, 13] rfl ⟨(hS556.subR [0, 1]).sub [1, 0, 2] (by decide), hl532⟩
   refine WC.condF2 (fun fb => by kernel_rfl) h533 ?_
   refine WC.exit ?_
   injection hl532 with hl532
   exact WX.thenX (WX.thenX (WX.blockHere (WX.to Kx527 (a522, a523) [0, 1, 4, 5] rfl ⟨(hS531.subR [0, 1]).sub [0, 1, 2] (by decide), hl532.symm⟩)))
 rintro y562 w559 ⟨hS560, hq561⟩
 subst hq561
 refine WX.next ?_
 refine WC.seq ?_
 obtain ⟨h577, hf⟩ := as_some hf
 obtain ⟨h578, hf⟩ := as_some hf
 obtain ⟨h579, hf⟩ := as_some hf
 obtain ⟨h580, hf⟩ := as_some hf
 refine WC.regionD ([(3, ((adr A_p1).add (((0 : Int)).toNat * 1)), (iv (rdD p1 (0 : Int) 0))), (6, (((adr A_p0).add (((rdD p1 (0 : Int) 0)).toNat * 4)).add 3), (iv ((rdD p0 (rdD p1 (0 : Int) 0) z_Tile).W))), (13, ((adr A_p1).add ((w64 ((p1.length : Int) - 1)).toNat * 1)), (iv (rdD p1 (w64 ((p1.length : Int) - 1)) 0))), (16, (((adr A_p0).add (((rdD p1 (w64 ((p1.length : Int) - 1)) 0)).toNat * 4)).add 1), (iv ((rdD p0 (rdD p1 (w64 ((p1.length : Int) - 1)) 0) z_Tile).E)))], [0, 1, 2, 3, 4, 5, 6, 7, 8, 9, 10, 11, 12, 13, 14, 15, 16, 17, 19], [[], [], [1], [1, 2], [0, 1, 2, 3], [0, 1, 2, 3, 4], [0, 1, 2, 3, 4, 5], [], [], [], [9], [9, 10], [8, 9, 10, 11], [8, 9, 10, 11, 12], [7, 8, 9, 10, 11, 12, 13], [7, 8, 9, 10, 11, 12, 13, 14], [7, 8, 9, 10, 11, 12, 13, 14, 15], [0, 1, 2, 3, 4, 5, 6], [0, 1, 2, 3, 4, 5, 6, 17], [0, 1, 2, 3, 4, 5, 6, 7, 8, 9, 10, 11, 12, 13, 14, 15, 16, 17, 18], [0, 1, 2, 3, 4, 5, 6, 7, 8, 9, 10, 11, 12, 13, 14, 15, 16, 17, 18, 19]]) [[0, 1, 2, 3, 4, 5, 6, 7, 8, 9, 10, 11, 12, 13, 14, 15, 16, 17, 18, 19, 20]] (by kernel_rfl) (by kernel_rfl) (NoPanic.seq (NoPanic.body)) ?_
 have hS572 := hS560.drew
 revert hS572
 generalize World.drew w559 = w571
 intro hS572
 refine ⟨⟨rowR.cell (hS572.rd 1).1 0 h577.1 h577.2 0 rfl, rowR.cell (hS572.rd 0).1 z_Tile h578.1 h578.2 3 rfl, rowR.cell (hS572.rd 1).1 0 h579.1 h579.2 0 rfl, rowR.cell (hS572.rd 0).1 z_Tile h580.1 h580.2 1 rfl, trivial⟩, forallC ?_ (forallN)⟩
 refine segF 18 [.v (iv (rdD p1 (0 : Int) 0)), .v (iv ((rdD p0 (rdD p1 (0 : Int) 0) z_Tile).W)), .v (iv (rdD p1 (w64 ((p1.length : Int) - 1)) 0)), .v (iv ((rdD p0 (rdD p1 (w64 ((p1.length : Int) - 1)) 0) z_Tile).E))] [4, 5, 41, 51, 52] [(4, (pt g433)), (5, (pt g443)), (41, (iv ((rdD p0 (rdD p1 (0 : Int) 0) z_Tile).W))), (51, (iv ((rdD p0 (rdD p1 (w64 ((p1.length : Int) - 1)) 0) z_Tile).E))), (52, (.pointer (some ⟨g443, 17, none⟩)))] [.idx A_p1 (0 : Int) p1.length, .idx A_p0 (rdD p1 (0 : Int) 0) p0.length, .idx A_p1 (w64 ((p1.length : Int) - 1)) p1.length, .idx A_p0 (rdD p1 (w64 ((p1.length : Int) - 1)) 0) p0.length] [0, 1, 2, 3] [(3, ((adr A_p1).add (((0 : Int)).toNat * 1)), (iv (rdD p1 (0 : Int) 0))), (6, (((adr A_p0).add (((rdD p1 (0 : Int) 0)).toNat * 4)).add 3), (iv ((rdD p0 (rdD p1 (0 : Int) 0) z_Tile).W))), (13, ((adr A_p1).add ((w64 ((p1.length : Int) - 1)).toNat * 1)), (iv (rdD p1 (w64 ((p1.length : Int) - 1)) 0))), (16, (((adr A_p0).add (((rdD p1 (w64 ((p1.length : Int) - 1)) 0)).toNat * 4)).add 1), (iv ((rdD p0 (rdD p1 (w64 ((p1.length : Int) - 1)) 0) z_Tile).E)))] (fun fb => by kernel_rfl) rfl ⟨rowR.adr (hS572.rd 1).1 h577.1 h577.2, rowR.adr (hS572.rd 0).1 h578.1 h578.2, rowR.adr (hS572.rd 1).1 h579.1 h579.2, rowR.adr (hS572.rd 0).1 h580.1 h580.2, trivial⟩ rfl ?_
 refine WL.store hS572 1 rfl [(17, (iv ((rdD p0 (rdD p1 (0 : Int) 0) z_Tile).W)))] #[(.slice A439 (([] : List Int) ++ p1).length c440), (iv x527.1.e0), (iv x527.1.e1), (iv x527.1.e2), (iv x527.1.e3), (iv x527.1.e4), (iv x527.1.e5), (iv x527.1.e6), (iv x527.1.e7), (iv x527.2.e0), (iv x527.2.e1), (iv x527.2.e2), (iv x527.2.e3), (iv x527.2.e4), (iv x527.2.e5), (iv x527.2.e6), (iv x527.2.e7), (iv ((rdD p0 (rdD p1 (0 : Int) 0) z_Tile).W)), (iv 0)] (fun fb => by kernel_rfl) (by kernel_rfl) (by kernel_rfl) [0, 2] (by decide) (by decide) (fun w581 hS582 => ?_)
 refine ⟨⟨rowR.cell (hS582.rd 1).1 0 h579.1 h579.2 0 rfl, rowR.cell (hS582.rd 0).1 z_Tile h580.1 h580.2 1 rfl, trivial⟩, ?_⟩
 refine seg 20 [] [4, 5, 51, 53] [(4, (pt g433)), (5, (pt g443)), (51, (iv ((rdD p0 (rdD p1 (w64 ((p1.length : Int) - 1)) 0) z_Tile).E))), (53, (.pointer (some ⟨g443, 18, none⟩)))] [] (fun fb => by kernel_rfl) rfl trivial ?_
 refine WL.store hS582 0 rfl [(18, (iv ((rdD p0 (rdD p1 (w64 ((p1.length : Int) - 1)) 0) z_Tile).E)))] #[(.slice A439 (([] : List Int) ++ p1).length c440), (iv x527.1.e0), (iv x527.1.e1), (iv x527.1.e2), (iv x527.1.e3), (iv x527.1.e4), (iv x527.1.e5), (iv x527.1.e6), (iv x527.1.e7), (iv x527.2.e0), (iv x527.2.e1), (iv x527.2.e2), (iv x527.2.e3), (iv x527.2.e4), (iv x527.2.e5), (iv x527.2.e6), (iv x527.2.e7), (iv ((rdD p0 (rdD p1 (0 : Int) 0) z_Tile).W)), (iv ((rdD p0 (rdD p1 (w64 ((p1.length : Int) - 1)) 0) z_Tile).E))] (fun fb => by kernel_rfl) (by kernel_rfl) (by kernel_rfl) [1, 2] (by decide) (by decide) (fun w583 hS584 => ?_)
 refine ⟨trivial, ?_⟩
 refine WL.done rfl ?_
 refine WX.next ?_
 refine WC.seq ?_
 refine WC.region ?_
 refine seg 1 [.v (.slice A439 (([] : List Int) ++ p1).length c440), .v (iv x527.1.e0), .v (iv x527.1.e1), .v (iv x527.1.e2), .v (iv x527.1.e3), .v (iv x527.1.e4), .v (iv x527.1.e5), .v (iv x527.1.e6), .v (iv x527.1.e7), .v (iv x527.2.e0), .v (iv x527.2.e1), .v (iv x527.2.e2), .v (iv x527.2.e3), .v (iv x527.2.e4), .v (iv x527.2.e5), .v (iv x527.2.e6), .v (iv x527.2.e7), .v (iv ((rdD p0 (rdD p1 (0 : Int) 0) z_Tile).W)), .v (iv ((rdD p0 (rdD p1 (w64 ((p1.length : Int) - 1)) 0) z_Tile).E))] [4, 54] [(4, (pt g433)), (54, (.agg #[(.slice A439 (([] : List Int) ++ p1).length c440), (iv x527.1.e0), (iv x527.1.e1), (iv x527.1.e2), (iv x527.1.e3), (iv x527.1.e4), (iv x527.1.e5), (iv x527.1.e6), (iv x527.1.e7), (iv x527.2.e0), (iv x527.2.e1), (iv x527.2.e2), (iv x527.2.e3), (iv x527.2.e4), (iv x527.2.e5), (iv x527.2.e6), (iv x527.2.e7), (iv ((rdD p0 (rdD p1 (0 : Int) 0) z_Tile).W)), (iv ((rdD p0 (rdD p1 (w64 ((p1.length : Int) - 1)) 0) z_Tile).E))]))] [.cell ⟨g443, 0, none⟩ (.slice A439 (([] : List Int) ++ p1).length c440), .cell ⟨g443, 1, none⟩ (iv x527.1.e0), .cell ⟨g443, 2, none⟩ (iv x527.1.e1), .cell ⟨g443, 3, none⟩ (iv x527.1.e2), .cell ⟨g443, 4, none⟩ (iv x527.1.e3), .cell ⟨g443, 5, none⟩ (iv x527.1.e4), .cell ⟨g443, 6, none⟩ (iv x527.1.e5), .cell ⟨g443, 7, none⟩ (iv x527.1.e6), .cell ⟨g443, 8, none⟩ (iv x527.1.e7), .cell ⟨g443, 9, none⟩ (iv x527.2.e0), .cell ⟨g443, 10, none⟩ (iv x527.2.e1), .cell ⟨g443, 11, none⟩ (iv x527.2.e2), .cell ⟨g443, 12, none⟩ (iv x527.2.e3), .cell ⟨g443, 13, none⟩ (iv x527.2.e4), .cell ⟨g443, 14, none⟩ (iv x527.2.e5), .cell ⟨g443, 15, none⟩ (iv x527.2.e6), .cell ⟨g443, 16, none⟩ (iv x527.2.e7), .cell ⟨g443, 17, none⟩ (iv ((rdD p0 (rdD p1 (0 : Int) 0) z_Tile).W)), .cell ⟨g443, 18, none⟩ (iv ((rdD p0 (rdD p1 (w64 ((p1.length : Int) - 1)) 0) z_Tile).E))] (fun fb => by kernel_rfl) rfl ⟨hS584.cell 0 rfl 0 rfl, hS584.cell 0 rfl 1 rfl, hS584.cell 0 rfl 2 rfl, hS584.cell 0 rfl 3 rfl, hS584.cell 0 rfl 4 rfl, hS584.cell 0 rfl 5 rfl, hS584.cell 0 rfl 6 rfl, hS584.cell 0 rfl 7 rfl, hS584.cell 0 rfl 8 rfl, hS584.cell 0 rfl 9 rfl, hS584.cell 0 rfl 10 rfl, hS584.cell 0 rfl 11 rfl, hS584.cell 0 rfl 12 rfl, hS584.cell 0 rfl 13 rfl, hS584.cell 0 rfl 14 rfl, hS584.cell 0 rfl 15 rfl, hS584.cell 0 rfl 16 rfl, hS584.cell 0 rfl 17 rfl, hS584.cell 0 rfl 18 rfl, trivial⟩ ?_
 refine WL.store hS584 1 rfl [(0, (.slice A439 (([] : List Int) ++ p1).length c440)), (1, (iv x527.1.e0)), (2, (iv x527.1.e1)), (3, (iv x527.1.e2)), (4, (iv x527.1.e3)), (5, (iv x527.1.e4)), (6, (iv x527.1.e5)), (7, (iv x527.1.e6)), (8, (iv x527.1.e7)), (9, (iv x527.2.e0)), (10, (iv x527.2.e1)), (11, (iv x527.2.e2)), (12, (iv x527.2.e3)), (13, (iv x527.2.e4)), (14, (iv x527.2.e5)), (15, (iv x527.2.e6)), (16, (iv x527.2.e7)), (17, (iv ((rdD p0 (rdD p1 (0 : Int) 0) z_Tile).W))), (18, (iv ((rdD p0 (rdD p1 (w64 ((p1.length : Int) - 1)) 0) z_Tile).E)))] #[(.slice A439 (([] : List Int) ++ p1).length c440), (iv x527.1.e0), (iv x527.1.e1), (iv x527.1.e2), (iv x527.1.e3), (iv x527.1.e4), (iv x527.1.e5), (iv x527.1.e6), (iv x527.1.e7), (iv x527.2.e0), (iv x527.2.e1), (iv x527.2.e2), (iv x527.2.e3), (iv x527.2.e4), (iv x527.2.e5), (iv x527.2.e6), (iv x527.2.e7), (iv ((rdD p0 (rdD p1 (0 : Int) 0) z_Tile).W)), (iv ((rdD p0 (rdD p1 (w64 ((p1.length : Int) - 1)) 0) z_Tile).E))] (fun fb => by kernel_rfl) (by kernel_rfl) (by kernel_rfl) [0, 2] (by decide) (by decide) (fun w585 hS586 => ?_)
 refine ⟨trivial, ?_⟩
 refine WL.done rfl ?_
 refine WX.next ?_
 refine WC.ret ?_
 injection hf with hf
 subst hf
 exact WX.ret_ [.v (.slice A439 (([] : List Int) ++ p1).length c440), .v (iv x527.1.e0), .v (iv x527.1.e1), .v (iv x527.1.e2), .v (iv x527.1.e3), .v (iv x527.1.e4), .v (iv x527.1.e5), .v (iv x527.1.e6), .v (iv x527.1.e7), .v (iv x527.2.e0), .v (iv x527.2.e1), .v (iv x527.2.e2), .v (iv x527.2.e3), .v (iv x527.2.e4), .v (iv x527.2.e5), .v (iv x527.2.e6), .v (iv x527.2.e7), .v (iv ((rdD p0 (rdD p1 (0 : Int) 0) z_Tile).W)), .v (iv ((rdD p0 (rdD p1 (w64 ((p1.length : Int) - 1)) 0) z_Tile).E))] (.agg #[(.slice A439 (([] : List Int) ++ p1).length c440), (iv x527.1.e0), (iv x527.1.e1), (iv x527.1.e2), (iv x527.1.e3), (iv x527.1.e4), (iv x527.1.e5), (iv x527.1.e6), (iv x527.1.e7), (iv x527.2.e0), (iv x527.2.e1), (iv x527.2.e2), (iv x527.2.e3), (iv x527.2.e4), (iv x527.2.e5), (iv x527.2.e6), (iv x527.2.e7), (iv ((rdD p0 (rdD p1 (0 : Int) 0) z_Tile).W)), (iv ((rdD p0 (rdD p1 (w64 ((p1.length : Int) - 1)) 0) z_Tile).E))]) [.cell ⟨g433, 0, none⟩ (.slice A439 (([] : List Int) ++ p1).length c440), .cell ⟨g433, 1, none⟩ (iv x527.1.e0), .cell ⟨g433, 2, none⟩ (iv x527.1.e1), .cell ⟨g433, 3, none⟩ (iv x527.1.e2), .cell ⟨g433, 4, none⟩ (iv x527.1.e3), .cell ⟨g433, 5, none⟩ (iv x527.1.e4), .cell ⟨g433, 6, none⟩ (iv x527.1.e5), .cell ⟨g433, 7, none⟩ (iv x527.1.e6), .cell ⟨g433, 8, none⟩ (iv x527.1.e7), .cell ⟨g433, 9, none⟩ (iv x527.2.e0), .cell ⟨g433, 10, none⟩ (iv x527.2.e1), .cell ⟨g433, 11, none⟩ (iv x527.2.e2), .cell ⟨g433, 12, none⟩ (iv x527.2.e3), .cell ⟨g433, 13, none⟩ (iv x527.2.e4), .cell ⟨g433, 14, none⟩ (iv x527.2.e5), .cell ⟨g433, 15, none⟩ (iv x527.2.e6), .cell ⟨g433, 16, none⟩ (iv x527.2.e7), .cell ⟨g433, 17, none⟩ (iv ((rdD p0 (rdD p1 (0 : Int) 0) z_Tile).W)), .cell ⟨g433, 18, none⟩ (iv ((rdD p0 (rdD p1 (w64 ((p1.length : Int) - 1)) 0) z_Tile).E))] (fun fb => by kernel_rfl) ⟨hS586.cell 0 rfl 0 rfl, hS586.cell 0 rfl 1 rfl, hS586.cell 0 rfl 2 rfl, hS586.cell 0 rfl 3 rfl, hS586.cell 0 rfl 4 rfl, hS586.cell 0 rfl 5 rfl, hS586.cell 0 rfl 6 rfl, hS586.cell 0 rfl 7 rfl, hS586.cell 0 rfl 8 rfl, hS586.cell 0 rfl 9 rfl, hS586.cell 0 rfl 10 rfl, hS586.cell 0 rfl 11 rfl, hS586.cell 0 rfl 12 rfl, hS586.cell 0 rfl 13 rfl, hS586.cell 0 rfl 14 rfl, hS586.cell 0 rfl 15 rfl, hS586.cell 0 rfl 16 rfl, hS586.cell 0 rfl 17 rfl, hS586.cell 0 rfl 18 rfl, trivial⟩ ⟨_, rfl, A439, c440, rfl, (hS586.sub [2] (by decide)).noR⟩
theorem rows_All_1_calls : ∀ (k : Nat) (p0 : Int) (f0 : Int) (f1 : List Row) (f2 : List Tile) (f3 : List Int) (g_f0 : Nat) (g_f1 : Nat) (A_f1 : Option Addr) (c_f1 : Nat) (H_f1 : Nat → HF) (g_f2 : Nat) (A_f2 : Option Addr) (c_f2 : Nat) (g_f3 : Nat) (A_f3 : Option Addr) (c_f3 : Nat) (g_f4 : Nat) (r : (List Row) × (List Int)) (w : World) (hR0 : RO (fpL [blk g_f1 (.cells #[(.slice A_f1 f1.length c_f1)] 82 (0, 0)), rowO 88 encN_Row A_f1 c_f1 (tag H_f1 f1), poolO [nestO subN_Row H_f1 f1], blk g_f3 (.cells #[(.slice A_f3 f3.length c_f3)] 36 (0, 0)), rowO 3 encInt A_f3 c_f3 f3]) w (blk g_f0 (.cells #[(iv f0)] 3 (0, 0)))) (hR1 : RO (fpL [blk g_f1 (.cells #[(.slice A_f1 f1.length c_f1)] 82 (0, 0)), rowO 88 encN_Row A_f1 c_f1 (tag H_f1 f1), poolO [nestO subN_Row H_f1 f1], blk g_f3 (.cells #[(.slice A_f3 f3.length c_f3)] 36 (0, 0)), rowO 3 encInt A_f3 c_f3 f3]) w (blk g_f2 (.cells #[(.slice A_f2 f2.length c_f2)] 22 (0, 0)))) (hR2 : RO (fpL [blk g_f1 (.cells #[(.slice A_f1 f1.length c_f1)] 82 (0, 0)), rowO 88 encN_Row A_f1 c_f1 (tag H_f1 f1), poolO [nestO subN_Row H_f1 f1], blk g_f3 (.cells #[(.slice A_f3 f3.length c_f3)] 36 (0, 0)), rowO 3 encInt A_f3 c_f3 f3]) w (rowR enc_Tile A_f2 c_f2 f2)) (hR3 : RO (fpL [blk g_f1 (.cells #[(.slice A_f1 f1.length c_f1)] 82 (0, 0)), rowO 88 encN_Row A_f1 c_f1 (tag H_f1 f1), poolO [nestO subN_Row H_f1 f1], blk g_f3 (.cells #[(.slice A_f3 f3.length c_f3)] 36 (0, 0)), rowO 3 encInt A_f3 c_f3 f3]) w (blk g_f4 (.cells #[(.func (.func 82) #[] #[(.pointer (some ⟨g_f0, 0, none⟩)), (.pointer (some ⟨g_f1, 0, none⟩)), (.pointer (some ⟨g_f2, 0, none⟩)), (.pointer (some ⟨g_f3, 0, none⟩)), (.pointer (some ⟨g_f4, 0, none⟩))])] 115 (0, 0)))) (hI : IoOK w [blk g_f1 (.cells #[(.slice A_f1 f1.length c_f1)] 82 (0, 0)), rowO 88 encN_Row A_f1 c_f1 (tag H_f1 f1), poolO [nestO subN_Row H_f1 f1], blk g_f3 (.cells #[(.slice A_f3 f3.length c_f3)] 36 (0, 0)), rowO 3 encInt A_f3 c_f3 f3]) (hf : rows_All_1 k p0 f0 f1 f2 f3 = some r),
  CallsR Try.prog 82 #[(iv p0), (.pointer (some ⟨g_f0, 0, none⟩)), (.pointer (some ⟨g_f1, 0, none⟩)), (.pointer (some ⟨g_f2, 0, none⟩)), (.pointer (some ⟨g_f3, 0, none⟩)), (.pointer (some ⟨g_f4, 0, none⟩))] w (fun v w' => ∃ (A1_ : Option Addr), ∃ (c1_ : Nat), ∃ (h1_ : Nat → HF), ∃ (A2_ : Option Addr), ∃ (c2_ : Nat), v = (.tuple #[]) ∧ St (fpL [blk g_f1 (.cells #[(.slice A_f1 f1.length c_f1)] 82 (0, 0)), rowO 88 encN_Row A_f1 c_f1 (tag H_f1 f1), poolO [nestO subN_Row H_f1 f1], blk g_f3 (.cells #[(.slice A_f3 f3.length c_f3)] 36 (0, 0)), rowO 3 encInt A_f3 c_f3 f3]) w w' [] [blk g_f1 (.cells #[(.slice A1_ r.1.length c1_)] 82 (0, 0)), rowO 88 encN_Row A1_ c1_ (tag h1_ r.1), poolO [nestO subN_Row h1_ r.1], blk g_f3 (.cells #[(.slice A2_ r.2.length c2_)] 36 (0, 0)), rowO 3 encInt A2_ c2_ r.2]) := by
 intro k
 induction k with
 | zero => intro p0 f0 f1 f2 f3 g_f0 g_f1 A_f1 c_f1 H_f1 g_f2 A_f2 c_f2 g_f3 A_f3 c_f3 g_f4 r w hR0 hR1 hR2 hR3 hI hf; rw [rows_All_1] at hf; cases hf
 | succ k ih_ =>
 intro p0 f0 f1 f2 f3 g_f0 g_f1 A_f1 c_f1 H_f1 g_f2 A_f2 c_f2 g_f3 A_f3 c_f3 g_f4 r w hR0 hR1 hR2 hR3 hI hf
 have hS : St (fpL [blk g_f1 (.cells #[(.slice A_f1 f1.length c_f1)] 82 (0, 0)), rowO 88 encN_Row A_f1 c_f1 (tag H_f1 f1), poolO [nestO subN_Row H_f1 f1], blk g_f3 (.cells #[(.slice A_f3 f3.length c_f3)] 36 (0, 0)), rowO 3 encInt A_f3 c_f3 f3]) w w [blk g_f0 (.cells #[(iv f0)] 3 (0, 0)), blk g_f2 (.cells #[(.slice A_f2 f2.length c_f2)] 22 (0, 0)), rowR enc_Tile A_f2 c_f2 f2, blk g_f4 (.cells #[(.func (.func 82) #[] #[(.pointer (some ⟨g_f0, 0, none⟩)), (.pointer (some ⟨g_f1, 0, none⟩)), (.pointer (some ⟨g_f2, 0, none⟩)), (.pointer (some ⟨g_f3, 0, none⟩)), (.pointer (some ⟨g_f4, 0, none⟩))])] 115 (0, 0))] [blk g_f1 (.cells #[(.slice A_f1 f1.length c_f1)] 82 (0, 0)), rowO 88 encN_Row A_f1 c_f1 (tag H_f1 f1), poolO [nestO subN_Row H_f1 f1], blk g_f3 (.cells #[(.slice A_f3 f3.length c_f3)] 36 (0, 0)), rowO 3 encInt A_f3 c_f3 f3] := St.initIO (ro_cons hR0 (ro_cons hR1 (ro_cons hR2 (ro_cons hR3 (ro_nil _ _))))) hI
 rw [rows_All_1] at hf
 generalize rows_All_1 k = rc_ at hf ih_
 refine enter 50 Try.func82 rfl Try.ntmps82 rfl ?_
 refine WC.seq ?_
 refine WC.seq ?_
 refine WC.region ?_
 refine seg 3 [.v (iv f0)] [0, 2, 3, 4, 5, 11] [(0, (iv p0)), (2, (.pointer (some ⟨g_f1, 0, none⟩))), (3, (.pointer (some ⟨g_f2, 0, none⟩))), (4, (.pointer (some ⟨g_f3, 0, none⟩))), (5, (.pointer (some ⟨g_f4, 0, none⟩))), (11, (.bool (p0 == f0)))] [.cell ⟨g_f0, 0, none⟩ (iv f0)] (fun fb => by kernel_rfl) rfl ⟨blk_cell (hS.rd 0).1 0 rfl, trivial⟩ ?_
 refine WL.done rfl ?_
 refine WX.next ?_
 rcases br_some hf with ⟨h766, hf⟩ | ⟨h766, hf⟩
 ·refine WC.condT2 (fun fb => by kernel_rfl) h766 ?_
  refine WC.seq ?_
  refine WC.regionD ([(0, ⟨g_f1, 0, none⟩, (.slice A_f1 f1.length c_f1)), (1, ⟨g_f2, 0, none⟩, (.slice A_f2 f2.length c_f2)), (2, ⟨g_f3, 0, none⟩, (.slice A_f3 f3.length c_f3))], [0, 1, 2], [[], [], [], [1, 2], [1, 2, 3], [0, 1, 2, 3, 4], [0, 1, 2, 3, 4, 5]]) [[0, 1, 2, 3, 4, 5, 6]] (by kernel_rfl) (by kernel_rfl) (NoPanic.seq (NoPanic.seq (NoPanic.body))) ?_
  have hS788 := hS.drew
  revert hS788
  generalize World.drew w = w787
  intro hS788
  refine ⟨⟨hS788.cell 0 rfl 0 rfl, blk_cell (hS788.rd 1).1 0 rfl, hS788.cell 3 rfl 0 rfl, trivial⟩, forallC ?_ (forallN)⟩
  refine segF 3 [.v (.slice A_f1 f1.length c_f1), .v (.slice A_f2 f2.length c_f2), .v (.slice A_f3 f3.length c_f3)] [2, 4, 12, 13, 14] [(2, (.pointer (some ⟨g_f1, 0, none⟩))), (4, (.pointer (some ⟨g_f3, 0, none⟩))), (12, (.slice A_f1 f1.length c_f1)), (13, (.slice A_f2 f2.length c_f2)), (14, (.slice A_f3 f3.length c_f3))] [] [0, 1, 2] [(0, ⟨g_f1, 0, none⟩, (.slice A_f1 f1.length c_f1)), (1, ⟨g_f2, 0, none⟩, (.slice A_f2 f2.length c_f2)), (2, ⟨g_f3, 0, none⟩, (.slice A_f3 f3.length c_f3))] (fun fb => by kernel_rfl) rfl trivial rfl ?_
  obtain ⟨t789, ht790, hf⟩ := bind_some hf
  refine WL.call (some 15) 83 #[(.slice A_f2 f2.length c_f2), (.slice A_f3 f3.length c_f3)] (fun fb => by kernel_rfl) (rows_rowOf_calls _ f2 f3 A_f2 c_f2 A_f3 c_f3 t789 _ (hS788.rd 2) (hS788.ow 4).ofO ht790) (fun v w791 hR792 => ?_)
  obtain ⟨A794, c795, rfl, hk_⟩ := hR792
  have hS793 : St (fpL [blk g_f1 (.cells #[(.slice A_f1 f1.length c_f1)] 82 (0, 0)), rowO 88 encN_Row A_f1 c_f1 (tag H_f1 f1), poolO [nestO subN_Row H_f1 f1], blk g_f3 (.cells #[(.slice A_f3 f3.length c_f3)] 36 (0, 0)), rowO 3 encInt A_f3 c_f3 f3]) w w791 [blk g_f0 (.cells #[(iv f0)] 3 (0, 0)), blk g_f2 (.cells #[(.slice A_f2 f2.length c_f2)] 22 (0, 0)), rowR enc_Tile A_f2 c_f2 f2, blk g_f4 (.cells #[(.func (.func 82) #[] #[(.pointer (some ⟨g_f0, 0, none⟩)), (.pointer (some ⟨g_f1, 0, none⟩)), (.pointer (some ⟨g_f2, 0, none⟩)), (.pointer (some ⟨g_f3, 0, none⟩)), (.pointer (some ⟨g_f4, 0, none⟩))])] 115 (0, 0))] [rowO 3 encInt A794 c795 t789.Cells, blk g_f1 (.cells #[(.slice A_f1 f1.length c_f1)] 82 (0, 0)), rowO 88 encN_Row A_f1 c_f1 (tag H_f1 f1), poolO [nestO subN_Row H_f1 f1], blk g_f3 (.cells #[(.slice A_f3 f3.length c_f3)] 36 (0, 0)), rowO 3 encInt A_f3 c_f3 f3] := hS788.call hk_ [] [0, 1, 2, 3, 4] (fun g hg => hg.elim) (by simp) (by decide)
  refine ⟨⟨hS793.cell 1 rfl 0 rfl, trivial⟩, ?_⟩
  refine WL.new hS793 16 [] (fun g => (.slice (some ⟨g, 0, none⟩) 1 1)) (.cells #[(.slice A794 t789.Cells.length c795), (iv t789.South.e0), (iv t789.South.e1), (iv t789.South.e2), (iv t789.South.e3), (iv t789.South.e4), (iv t789.South.e5), (iv t789.South.e6), (iv t789.South.e7), (iv t789.North.e0), (iv t789.North.e1), (iv t789.North.e2), (iv t789.North.e3), (iv t789.North.e4), (iv t789.North.e5), (iv t789.North.e6), (iv t789.North.e7), (iv t789.West), (iv t789.East)] 88 (0, 0)) [] (fun fb g => by kernel_rfl) trivial (fun g796 w797 hS798 => ?_)
  refine ⟨⟨hS798.cell 2 rfl 0 rfl, trivial⟩, ?_⟩
  have hS800 : St (fpL [blk g_f1 (.cells #[(.slice A_f1 f1.length c_f1)] 82 (0, 0)), rowO 88 encN_Row A_f1 c_f1 (tag H_f1 f1), poolO [nestO subN_Row H_f1 f1], blk g_f3 (.cells #[(.slice A_f3 f3.length c_f3)] 36 (0, 0)), rowO 3 encInt A_f3 c_f3 f3]) w w797 [blk g_f0 (.cells #[(iv f0)] 3 (0, 0)), blk g_f2 (.cells #[(.slice A_f2 f2.length c_f2)] 22 (0, 0)), rowR enc_Tile A_f2 c_f2 f2, blk g_f4 (.cells #[(.func (.func 82) #[] #[(.pointer (some ⟨g_f0, 0, none⟩)), (.pointer (some ⟨g_f1, 0, none⟩)), (.pointer (some ⟨g_f2, 0, none⟩)), (.pointer (some ⟨g_f3, 0, none⟩)), (.pointer (some ⟨g_f4, 0, none⟩))])] 115 (0, 0))] [rowO 88 encN_Row (some ⟨g796, 0, none⟩) 1 [((hd1 A794 c795), t789)], rowO 3 encInt A794 c795 t789.Cells, blk g_f1 (.cells #[(.slice A_f1 f1.length c_f1)] 82 (0, 0)), rowO 88 encN_Row A_f1 c_f1 (tag H_f1 f1), poolO [nestO subN_Row H_f1 f1], blk g_f3 (.cells #[(.slice A_f3 f3.length c_f3)] 36 (0, 0)), rowO 3 encInt A_f3 c_f3 f3] := hS798.map1 0 _ (fun h => rowO.ofBlk h rfl (Nat.le_of_ble_eq_true (by kernel_rfl))) (fun _ h => by obtain ⟨_, h1, h2⟩ := h; injection h1 with h1; subst h1; exact h2) [1, 2, 3, 4, 5, 6] (by decide) (by decide)
  obtain ⟨h801, hf⟩ := as_some hf
  refine WL.appendN hS800 3 (d := 17) (tS := 82) (z := (.agg #[(.slice none 0 0), (iv 0), (iv 0), (iv 0), (iv 0), (iv 0), (iv 0), (iv 0), (iv 0), (iv 0), (iv 0), (iv 0), (iv 0), (iv 0), (iv 0), (iv 0), (iv 0), (iv 0), (iv 0)])) (bytes := 168) (c2 := 1) (hx := (hd1 A794 c795)) (x := t789) rfl (fun fb => by kernel_rfl) (rowO.rd (hS800.own 0).1) (by kernel_rfl) (by kernel_rfl) rfl (by decide) h801 (by decide) [0, 1, 2, 4, 5, 6] (by decide) (by decide) (fun A802 c803 w804 hS805 => ?_)
  have hS806 : St (fpL [blk g_f1 (.cells #[(.slice A_f1 f1.length c_f1)] 82 (0, 0)), rowO 88 encN_Row A_f1 c_f1 (tag H_f1 f1), poolO [nestO subN_Row H_f1 f1], blk g_f3 (.cells #[(.slice A_f3 f3.length c_f3)] 36 (0, 0)), rowO 3 encInt A_f3 c_f3 f3]) w w804 [blk g_f0 (.cells #[(iv f0)] 3 (0, 0)), blk g_f2 (.cells #[(.slice A_f2 f2.length c_f2)] 22 (0, 0)), rowR enc_Tile A_f2 c_f2 f2, blk g_f4 (.cells #[(.func (.func 82) #[] #[(.pointer (some ⟨g_f0, 0, none⟩)), (.pointer (some ⟨g_f1, 0, none⟩)), (.pointer (some ⟨g_f2, 0, none⟩)), (.pointer (some ⟨g_f3, 0, none⟩)), (.pointer (some ⟨g_f4, 0, none⟩))])] 115 (0, 0))] [poolO [nestO subN_Row (updH H_f1 f1.length (hd1 A794 c795)) (f1 ++ [t789])], rowO 88 encN_Row A802 c803 (tag (updH H_f1 f1.length (hd1 A794 c795)) (f1 ++ [t789])), rowO 88 encN_Row (some ⟨g796, 0, none⟩) 1 [((hd1 A794 c795), t789)], blk g_f1 (.cells #[(.slice A_f1 f1.length c_f1)] 82 (0, 0)), blk g_f3 (.cells #[(.slice A_f3 f3.length c_f3)] 36 (0, 0)), rowO 3 encInt A_f3 c_f3 f3] := hS805.poolPush 4 rfl 0 (by simp) rfl (hd1 A794 c795) t789 (hS805.ow 2).ofO [2] (fun g hg => ⟨2, by simp, rowO.fpR (hS805.own 2).1 g hg⟩) _ rfl [0, 1, 3, 5, 6] (by decide) (by decide)
  refine ⟨trivial, ?_⟩
  refine WL.store hS806 3 rfl [(0, (.slice A802 (f1 ++ [t789]).length c803))] #[(.slice A802 (f1 ++ [t789]).length c803)] (fun fb => by kernel_rfl) (by kernel_rfl) rfl [0, 1, 2, 4, 5] (by decide) (by decide) (fun w807 hS808 => ?_)
  refine ⟨trivial, ?_⟩
  refine WL.done rfl ?_
  refine WX.next ?_
  refine WC.ret ?_
  injection hf with hf
  subst hf
  exact WX.thenR (WX.ret_ [] (.tuple #[]) [] (fun fb => by kernel_rfl) trivial ⟨_, rfl, A802, c803, (updH H_f1 f1.length (hd1 A794 c795)), A_f3, c_f3, rfl, (hS808.sub [0, 2, 1, 4, 5] (by decide)).noR⟩)
 refine WC.condF2 (fun fb => by kernel_rfl) h766 ?_
 refine WC.skip ?_
 refine WX.next ?_
 refine WC.seq ?_
 refine WC.region ?_
 refine seg 3 [.v (.slice A_f2 f2.length c_f2)] [0, 2, 3, 4, 5, 18, 19, 20] [(0, (iv p0)), (2, (.pointer (some ⟨g_f1, 0, none⟩))), (3, (.pointer (some ⟨g_f2, 0, none⟩))), (4, (.pointer (some ⟨g_f3, 0, none⟩))), (5, (.pointer (some ⟨g_f4, 0, none⟩))), (18, (.slice A_f2 f2.length c_f2)), (19, (iv (f2.length : Int))), (20, (iv 0))] [.cell ⟨g_f2, 0, none⟩ (.slice A_f2 f2.length c_f2)] (fun fb => by kernel_rfl) rfl ⟨blk_cell (hS.rd 1).1 0 rfl, trivial⟩ ?_
 refine WL.done rfl ?_
 refine WX.next ?_
 obtain ⟨x992, hx993, hf⟩ := bind_some hf
 refine WC.cutN (T := ((List Row) × (List Int)) × (Option Addr) × Nat × (Nat → HF) × (Option Addr) × Nat) (fun t => [(2, (.pointer (some ⟨g_f1, 0, none⟩))), (4, (.pointer (some ⟨g_f3, 0, none⟩)))]) (fun t w1 => St (fpL [blk g_f1 (.cells #[(.slice A_f1 f1.length c_f1)] 82 (0, 0)), rowO 88 encN_Row A_f1 c_f1 (tag H_f1 f1), poolO [nestO subN_Row H_f1 f1], blk g_f3 (.cells #[(.slice A_f3 f3.length c_f3)] 36 (0, 0)), rowO 3 encInt A_f3 c_f3 f3]) w w1 [blk g_f0 (.cells #[(iv f0)] 3 (0, 0)), blk g_f2 (.cells #[(.slice A_f2 f2.length c_f2)] 22 (0, 0)), rowR enc_Tile A_f2 c_f2 f2, blk g_f4 (.cells #[(.func (.func 82) #[] #[(.pointer (some ⟨g_f0, 0, none⟩)), (.pointer (some ⟨g_f1, 0, none⟩)), (.pointer (some ⟨g_f2, 0, none⟩)), (.pointer (some ⟨g_f3, 0, none⟩)), (.pointer (some ⟨g_f4, 0, none⟩))])] 115 (0, 0))] [blk g_f1 (.cells #[(.slice t.2.1 t.1.1.length t.2.2.1)] 82 (0, 0)), rowO 88 encN_Row t.2.1 t.2.2.1 (tag t.2.2.2.1 t.1.1), poolO [nestO subN_Row t.2.2.2.1 t.1.1], blk g_f3 (.cells #[(.slice t.2.2.2.2.1 t.1.2.length t.2.2.2.2.2)] 36 (0, 0)), rowO 3 encInt t.2.2.2.2.1 t.2.2.2.2.2 t.1.2] ∧ x992 = t.1) (fun Kx992 => ?_) ?_
 ·
  refine WC.block ?_
  refine WC.loop (T := ((List Row) × (List Int) × Int) × (Option Addr) × Nat × (Nat → HF) × (Option Addr) × Nat) (fun t => [(0, (iv p0)), (2, (.pointer (some ⟨g_f1, 0, none⟩))), (3, (.pointer (some ⟨g_f2, 0, none⟩))), (4, (.pointer (some ⟨g_f3, 0, none⟩))), (5, (.pointer (some ⟨g_f4, 0, none⟩))), (18, (.slice A_f2 f2.length c_f2)), (19, (iv (f2.length : Int))), (20, (iv t.1.2.2))]) (fun n t w1 => St (fpL [blk g_f1 (.cells #[(.slice A_f1 f1.length c_f1)] 82 (0, 0)), rowO 88 encN_Row A_f1 c_f1 (tag H_f1 f1), poolO [nestO subN_Row H_f1 f1], blk g_f3 (.cells #[(.slice A_f3 f3.length c_f3)] 36 (0, 0)), rowO 3 encInt A_f3 c_f3 f3]) w w1 [blk g_f0 (.cells #[(iv f0)] 3 (0, 0)), blk g_f2 (.cells #[(.slice A_f2 f2.length c_f2)] 22 (0, 0)), rowR enc_Tile A_f2 c_f2 f2, blk g_f4 (.cells #[(.func (.func 82) #[] #[(.pointer (some ⟨g_f0, 0, none⟩)), (.pointer (some ⟨g_f1, 0, none⟩)), (.pointer (some ⟨g_f2, 0, none⟩)), (.pointer (some ⟨g_f3, 0, none⟩)), (.pointer (some ⟨g_f4, 0, none⟩))])] 115 (0, 0))] [blk g_f1 (.cells #[(.slice t.2.1 t.1.1.length t.2.2.1)] 82 (0, 0)), rowO 88 encN_Row t.2.1 t.2.2.1 (tag t.2.2.2.1 t.1.1), poolO [nestO subN_Row t.2.2.2.1 t.1.1], blk g_f3 (.cells #[(.slice t.2.2.2.2.1 t.1.2.1.length t.2.2.2.2.2)] 36 (0, 0)), rowO 3 encInt t.2.2.2.2.1 t.2.2.2.2.2 t.1.2.1] ∧ rows_All_1.l0 n t.1.1 t.1.2.1 t.1.2.2 p0 f0 f2 rc_ = some x992) k ((f1, f3, 0), A_f1, c_f1, H_f1, A_f3, c_f3) [0, 2, 3, 4, 5, 18, 19, 20] rfl ⟨(hS.subR [0, 1, 2, 3]).sub [0, 1, 2, 3, 4] (by decide), hx993⟩ ?_
  rintro k994 ⟨⟨l979, l983, x984⟩, A977, c978, H980, A981, c982⟩ w995 ⟨hS996, hl997⟩
  cases k994 with
  | zero => rw [rows_All_1.l0] at hl997; cases hl997
  | succ k994 =>
   rw [rows_All_1.l0] at hl997
   refine WC.seq ?_
   refine WC.region ?_
   refine seg 1 [] [0, 2, 3, 4, 5, 18, 19, 20, 21] [(0, (iv p0)), (2, (.pointer (some ⟨g_f1, 0, none⟩))), (3, (.pointer (some ⟨g_f2, 0, none⟩))), (4, (.pointer (some ⟨g_f3, 0, none⟩))), (5, (.pointer (some ⟨g_f4, 0, none⟩))), (18, (.slice A_f2 f2.length c_f2)), (19, (iv (f2.length : Int))), (20, (iv x984)), (21, (.bool (decide (x984 < (f2.length : Int)))))] [] (fun fb => by kernel_rfl) rfl trivial ?_
   refine WL.done rfl ?_
   refine WX.next ?_
   refine WC.seq ?_
   rcases br_some hl997 with ⟨h998, hl997⟩ | ⟨h998, hl997⟩
   ·refine WC.condT2 (fun fb => by kernel_rfl) h998 ?_
    refine WC.skip ?_
    refine WX.next ?_
    refine WC.seq ?_
    refine WC.block ?_
    refine WC.seq ?_
    refine WC.region ?_
    refine seg 1 [] [0, 2, 3, 4, 5, 18, 19, 20, 22] [(0, (iv p0)), (2, (.pointer (some ⟨g_f1, 0, none⟩))), (3, (.pointer (some ⟨g_f2, 0, none⟩))), (4, (.pointer (some ⟨g_f3, 0, none⟩))), (5, (.pointer (some ⟨g_f4, 0, none⟩))), (18, (.slice A_f2 f2.length c_f2)), (19, (iv (f2.length : Int))), (20, (iv x984)), (22, (iv x984))] [] (fun fb => by kernel_rfl) rfl trivial ?_
    obtain ⟨h999, hl997⟩ := as_some hl997
    refine seg 3 [.v (iv ((rdD f2 x984 z_Tile).N)), .v (iv ((rdD f2 x984 z_Tile).E)), .v (iv ((rdD f2 x984 z_Tile).S)), .v (iv ((rdD f2 x984 z_Tile).W))] [0, 2, 3, 4, 5, 18, 19, 20, 22, 24] [(0, (iv p0)), (2, (.pointer (some ⟨g_f1, 0, none⟩))), (3, (.pointer (some ⟨g_f2, 0, none⟩))), (4, (.pointer (some ⟨g_f3, 0, none⟩))), (5, (.pointer (some ⟨g_f4, 0, none⟩))), (18, (.slice A_f2 f2.length c_f2)), (19, (iv (f2.length : Int))), (20, (iv x984)), (22, (iv x984)), (24, (.agg #[(iv ((rdD f2 x984 z_Tile).N)), (iv ((rdD f2 x984 z_Tile).E)), (iv ((rdD f2 x984 z_Tile).S)), (iv ((rdD f2 x984 z_Tile).W))]))] [.idx A_f2 x984 f2.length, .cell ((adr A_f2).add ((x984).toNat * 4)) (iv ((rdD f2 x984 z_Tile).N)), .cell (((adr A_f2).add ((x984).toNat * 4)).add 1) (iv ((rdD f2 x984 z_Tile).E)), .cell (((adr A_f2).add ((x984).toNat * 4)).add 2) (iv ((rdD f2 x984 z_Tile).S)), .cell (((adr A_f2).add ((x984).toNat * 4)).add 3) (iv ((rdD f2 x984 z_Tile).W))] (fun fb => by kernel_rfl) rfl ⟨rowR.adr (hS996.rd 2).1 h999.1 h999.2, rowR.cell (hS996.rd 2).1 z_Tile h999.1 h999.2 0 rfl, rowR.cell (hS996.rd 2).1 z_Tile h999.1 h999.2 1 rfl, rowR.cell (hS996.rd 2).1 z_Tile h999.1 h999.2 2 rfl, rowR.cell (hS996.rd 2).1 z_Tile h999.1 h999.2 3 rfl, trivial⟩ ?_
    refine WL.new hS996 8 [] (fun g => (.pointer (some ⟨g, 0, none⟩))) (.cells #[(iv 0), (iv 0), (iv 0), (iv 0)] 24 (0, 0)) [] (fun fb g => by kernel_rfl) trivial (fun g1000 w1001 hS1002 => ?_)
    refine ⟨trivial, ?_⟩
    refine seg 5 [] [0, 2, 3, 4, 5, 7, 8, 18, 19, 20, 24] [(0, (iv p0)), (2, (.pointer (some ⟨g_f1, 0, none⟩))), (3, (.pointer (some ⟨g_f2, 0, none⟩))), (4, (.pointer (some ⟨g_f3, 0, none⟩))), (5, (.pointer (some ⟨g_f4, 0, none⟩))), (7, (iv x984)), (8, (pt g1000)), (18, (.slice A_f2 f2.length c_f2)), (19, (iv (f2.length : Int))), (20, (iv x984)), (24, (.agg #[(iv ((rdD f2 x984 z_Tile).N)), (iv ((rdD f2 x984 z_Tile).E)), (iv ((rdD f2 x984 z_Tile).S)), (iv ((rdD f2 x984 z_Tile).W))]))] [] (fun fb => by kernel_rfl) rfl trivial ?_
    refine WL.store hS1002 0 rfl [(0, (iv ((rdD f2 x984 z_Tile).N))), (1, (iv ((rdD f2 x984 z_Tile).E))), (2, (iv ((rdD f2 x984 z_Tile).S))), (3, (iv ((rdD f2 x984 z_Tile).W)))] #[(iv ((rdD f2 x984 z_Tile).N)), (iv ((rdD f2 x984 z_Tile).E)), (iv ((rdD f2 x984 z_Tile).S)), (iv ((rdD f2 x984 z_Tile).W))] (fun fb => by kernel_rfl) (by kernel_rfl) rfl [1, 2, 3, 4, 5] (by decide) (by decide) (fun w1004 hS1005 => ?_)
    refine ⟨trivial, ?_⟩
    refine WL.done rfl ?_
    refine WX.next ?_
    refine WC.seq ?_
    obtain ⟨x1018, hx1019, hl997⟩ := bind_some hl997
    refine WC.cutN (T := Bool) (fun t => [(0, (iv p0)), (2, (.pointer (some ⟨g_f1, 0, none⟩))), (3, (.pointer (some ⟨g_f2, 0, none⟩))), (4, (.pointer (some ⟨g_f3, 0, none⟩))), (5, (.pointer (some ⟨g_f4, 0, none⟩))), (7, (iv x984)), (18, (.slice A_f2 f2.length c_f2)), (19, (iv (f2.length : Int))), (20, (iv x984)), (40, (.bool t))]) (fun t w1 => St (fpL [blk g_f1 (.cells #[(.slice A_f1 f1.length c_f1)] 82 (0, 0)), rowO 88 encN_Row A_f1 c_f1 (tag H_f1 f1), poolO [nestO subN_Row H_f1 f1], blk g_f3 (.cells #[(.slice A_f3 f3.length c_f3)] 36 (0, 0)), rowO 3 encInt A_f3 c_f3 f3]) w w1 [blk g_f0 (.cells #[(iv f0)] 3 (0, 0)), blk g_f2 (.cells #[(.slice A_f2 f2.length c_f2)] 22 (0, 0)), rowR enc_Tile A_f2 c_f2 f2, blk g_f4 (.cells #[(.func (.func 82) #[] #[(.pointer (some ⟨g_f0, 0, none⟩)), (.pointer (some ⟨g_f1, 0, none⟩)), (.pointer (some ⟨g_f2, 0, none⟩)), (.pointer (some ⟨g_f3, 0, none⟩)), (.pointer (some ⟨g_f4, 0, none⟩))])] 115 (0, 0))] [blk g_f1 (.cells #[(.slice A977 l979.length c978)] 82 (0, 0)), rowO 88 encN_Row A977 c978 (tag H980 l979), poolO [nestO subN_Row H980 l979], blk g_f3 (.cells #[(.slice A981 l983.length c982)] 36 (0, 0)), rowO 3 encInt A981 c982 l983] ∧ x1018 = t) (fun Kx1018 => ?_) ?_
    ·
     rcases br_some hx1019 with ⟨h1020, hx1019⟩ | ⟨h1020, hx1019⟩
     ·
      refine WC.regionD ([], [0, 1, 2, 3, 4, 5, 6, 7, 8, 9, 10, 11, 12, 13, 14, 15], [[], [0], [0, 1], [0, 1, 2], [0, 1, 2], [0, 1, 2], [0, 1, 2, 5], [0, 1, 2, 4, 5, 6], [0, 1, 2, 4, 5, 6, 7], [0, 1, 2, 3, 4, 5, 6, 7, 8], [0, 1, 2, 3, 4, 5, 6, 7, 8, 9], [0, 1, 2, 3, 4, 5, 6, 7, 8, 9, 10], [0, 1, 2], [0, 1, 2, 12], [0, 1, 2, 3, 4, 5, 6, 7, 8, 9, 10, 11, 12, 13], [0, 1, 2, 3, 4, 5, 6, 7, 8, 9, 10, 11, 12, 13, 14]]) [[0, 1, 2, 3, 4, 5, 6, 7, 8, 9, 10, 11, 12, 13, 14, 15]] (by kernel_rfl) (by kernel_rfl) (NoPanic.seq (NoPanic.block (NoPanic.seq (NoPanic.seq (NoPanic.block (NoPanic.body)))))) ?_
      have hS1022 := hS1005.drew
      revert hS1022
      generalize World.drew w1004 = w1021
      intro hS1022
      refine ⟨trivial, forallC ?_ (forallN)⟩
      refine seg 3 [] [0, 2, 3, 4, 5, 7, 8, 18, 19, 20, 27] [(0, (iv p0)), (2, (.pointer (some ⟨g_f1, 0, none⟩))), (3, (.pointer (some ⟨g_f2, 0, none⟩))), (4, (.pointer (some ⟨g_f3, 0, none⟩))), (5, (.pointer (some ⟨g_f4, 0, none⟩))), (7, (iv x984)), (8, (pt g1000)), (18, (.slice A_f2 f2.length c_f2)), (19, (iv (f2.length : Int))), (20, (iv x984)), (27, (.bool (p0 == 0)))] [] (fun fb => by kernel_rfl) rfl trivial ?_
      refine WL.setB 27 h1020 rfl ?_
      refine seg 16 [] [0, 2, 3, 4, 5, 7, 18, 19, 20, 40] [(0, (iv p0)), (2, (.pointer (some ⟨g_f1, 0, none⟩))), (3, (.pointer (some ⟨g_f2, 0, none⟩))), (4, (.pointer (some ⟨g_f3, 0, none⟩))), (5, (.pointer (some ⟨g_f4, 0, none⟩))), (7, (iv x984)), (18, (.slice A_f2 f2.length c_f2)), (19, (iv (f2.length : Int))), (20, (iv x984)), (40, (.bool true))] [] (fun fb => by kernel_rfl) rfl trivial ?_
      refine WL.done rfl ?_
      injection hx1019 with hx1019
      exact WX.to Kx1018 true [0, 2, 3, 4, 5, 7, 18, 19, 20, 40] rfl ⟨(hS1022.subR [0, 1, 2, 3]).sub [1, 2, 3, 4, 5] (by decide), hx1019.symm⟩
     obtain ⟨h1029, hx1019⟩ := as_some hx1019
     obtain ⟨h1030, hx1019⟩ := as_some hx1019
     refine WC.regionD ([(3, ⟨g_f2, 0, none⟩, (.slice A_f2 f2.length c_f2)), (4, ⟨g_f3, 0, none⟩, (.slice A981 l983.length c982)), (8, ((adr A981).add ((w64 (p0 - 1)).toNat * 1)), (iv (rdD l983 (w64 (p0 - 1)) 0))), (11, (((adr A_f2).add (((rdD l983 (w64 (p0 - 1)) 0)).toNat * 4)).add 1), (iv ((rdD f2 (rdD l983 (w64 (p0 - 1)) 0) z_Tile).E))), (13, ⟨g1000, 3, none⟩, (iv ((rdD f2 x984 z_Tile).W)))], [0, 1, 2, 3, 4, 5, 6, 7, 8, 9, 10, 11, 12, 13, 14, 15], [[], [0], [0, 1], [0, 1, 2], [0, 1, 2], [0, 1, 2], [0, 1, 2, 5], [0, 1, 2, 4, 5, 6], [0, 1, 2, 4, 5, 6, 7], [0, 1, 2, 3, 4, 5, 6, 7, 8], [0, 1, 2, 3, 4, 5, 6, 7, 8, 9], [0, 1, 2, 3, 4, 5, 6, 7, 8, 9, 10], [0, 1, 2], [0, 1, 2, 12], [0, 1, 2, 3, 4, 5, 6, 7, 8, 9, 10, 11, 12, 13], [0, 1, 2, 3, 4, 5, 6, 7, 8, 9, 10, 11, 12, 13, 14]]) [[0, 1, 2, 3, 4, 5, 6, 7, 8, 9, 10, 11, 12, 13, 14, 15]] (by kernel_rfl) (by kernel_rfl) (NoPanic.seq (NoPanic.block (NoPanic.seq (NoPanic.seq (NoPanic.block (NoPanic.body)))))) ?_
     have hS1026 := hS1005.drew
     revert hS1026
     generalize World.drew w1004 = w1025
     intro hS1026
     refine ⟨⟨blk_cell (hS1026.rd 1).1 0 rfl, hS1026.cell 4 rfl 0 rfl, rowR.cell (rowO.rd (hS1026.own 5).1) 0 h1029.1 h1029.2 0 rfl, rowR.cell (hS1026.rd 2).1 z_Tile h1030.1 h1030.2 1 rfl, hS1026.cell 0 rfl 3 rfl, trivial⟩, forallC ?_ (forallN)⟩
     refine seg 3 [] [0, 2, 3, 4, 5, 7, 8, 18, 19, 20, 27] [(0, (iv p0)), (2, (.pointer (some ⟨g_f1, 0, none⟩))), (3, (.pointer (some ⟨g_f2, 0, none⟩))), (4, (.pointer (some ⟨g_f3, 0, none⟩))), (5, (.pointer (some ⟨g_f4, 0, none⟩))), (7, (iv x984)), (8, (pt g1000)), (18, (.slice A_f2 f2.length c_f2)), (19, (iv (f2.length : Int))), (20, (iv x984)), (27, (.bool (p0 == 0)))] [] (fun fb => by kernel_rfl) rfl trivial ?_
     refine WL.setB 27 h1020 rfl ?_
     refine segF 16 [.v (.slice A_f2 f2.length c_f2), .v (.slice A981 l983.length c982), .v (iv (rdD l983 (w64 (p0 - 1)) 0)), .v (iv ((rdD f2 (rdD l983 (w64 (p0 - 1)) 0) z_Tile).E)), .v (iv ((rdD f2 x984 z_Tile).W))] [0, 2, 3, 4, 5, 7, 18, 19, 20, 40] [(0, (iv p0)), (2, (.pointer (some ⟨g_f1, 0, none⟩))), (3, (.pointer (some ⟨g_f2, 0, none⟩))), (4, (.pointer (some ⟨g_f3, 0, none⟩))), (5, (.pointer (some ⟨g_f4, 0, none⟩))), (7, (iv x984)), (18, (.slice A_f2 f2.length c_f2)), (19, (iv (f2.length : Int))), (20, (iv x984)), (40, (.bool (((rdD f2 (rdD l983 (w64 (p0 - 1)) 0) z_Tile).E) == ((rdD f2 x984 z_Tile).W))))] [.idx A981 (w64 (p0 - 1)) l983.length, .idx A_f2 (rdD l983 (w64 (p0 - 1)) 0) f2.length] [0, 1, 2, 3, 4] [(3, ⟨g_f2, 0, none⟩, (.slice A_f2 f2.length c_f2)), (4, ⟨g_f3, 0, none⟩, (.slice A981 l983.length c982)), (8, ((adr A981).add ((w64 (p0 - 1)).toNat * 1)), (iv (rdD l983 (w64 (p0 - 1)) 0))), (11, (((adr A_f2).add (((rdD l983 (w64 (p0 - 1)) 0)).toNat * 4)).add 1), (iv ((rdD f2 (rdD l983 (w64 (p0 - 1)) 0) z_Tile).E))), (13, ⟨g1000, 3, none⟩, (iv ((rdD f2 x984 z_Tile).W)))] (fun fb => by kernel_rfl) rfl ⟨rowR.adr (rowO.rd (hS1026.own 5).1) h1029.1 h1029.2, rowR.adr (hS1026.rd 2).1 h1030.1 h1030.2, trivial⟩ rfl ?_
     refine WL.done rfl ?_
     injection hx1019 with hx1019
     exact WX.to Kx1018 (((rdD f2 (rdD l983 (w64 (p0 - 1)) 0) z_Tile).E) == ((rdD f2 x984 z_Tile).W)) [0, 2, 3, 4, 5, 7, 18, 19, 20, 40] rfl ⟨(hS1026.subR [0, 1, 2, 3]).sub [1, 2, 3, 4, 5] (by decide), hx1019.symm⟩
    rintro y1034 w1031 ⟨hS1032, hq1033⟩
    subst hq1033
    refine WX.next ?_
    obtain ⟨x1057, hx1058, hl997⟩ := bind_some hl997
    refine WC.cutN (T := ((List Row) × (List Int)) × (Option Addr) × Nat × (Nat → HF) × (Option Addr) × Nat) (fun t => [(0, (iv p0)), (2, (.pointer (some ⟨g_f1, 0, none⟩))), (3, (.pointer (some ⟨g_f2, 0, none⟩))), (4, (.pointer (some ⟨g_f3, 0, none⟩))), (5, (.pointer (some ⟨g_f4, 0, none⟩))), (18, (.slice A_f2 f2.length c_f2)), (19, (iv (f2.length : Int))), (20, (iv x984))]) (fun t w1 => St (fpL [blk g_f1 (.cells #[(.slice A_f1 f1.length c_f1)] 82 (0, 0)), rowO 88 encN_Row A_f1 c_f1 (tag H_f1 f1), poolO [nestO subN_Row H_f1 f1], blk g_f3 (.cells #[(.slice A_f3 f3.length c_f3)] 36 (0, 0)), rowO 3 encInt A_f3 c_f3 f3]) w w1 [blk g_f0 (.cells #[(iv f0)] 3 (0, 0)), blk g_f2 (.cells #[(.slice A_f2 f2.length c_f2)] 22 (0, 0)), rowR enc_Tile A_f2 c_f2 f2, blk g_f4 (.cells #[(.func (.func 82) #[] #[(.pointer (some ⟨g_f0, 0, none⟩)), (.pointer (some ⟨g_f1, 0, none⟩)), (.pointer (some ⟨g_f2, 0, none⟩)), (.pointer (some ⟨g_f3, 0, none⟩)), (.pointer (some ⟨g_f4, 0, none⟩))])] 115 (0, 0))] [blk g_f1 (.cells #[(.slice t.2.1 t.1.1.length t.2.2.1)] 82 (0, 0)), rowO 88 encN_Row t.2.1 t.2.2.1 (tag t.2.2.2.1 t.1.1), poolO [nestO subN_Row t.2.2.2.1 t.1.1], blk g_f3 (.cells #[(.slice t.2.2.2.2.1 t.1.2.length t.2.2.2.2.2)] 36 (0, 0)), rowO 3 encInt t.2.2.2.2.1 t.2.2.2.2.2 t.1.2] ∧ x1057 = t.1) (fun Kx1057 => ?_) ?_
    ·
     rcases br_some hx1058 with ⟨h1059, hx1058⟩ | ⟨h1059, hx1058⟩
     ·refine WC.condT2 (fun fb => by kernel_rfl) h1059 ?_
      refine WC.seq ?_
      refine WC.region ?_
      refine seg 3 [.v (.slice A981 l983.length c982)] [0, 2, 3, 4, 5, 18, 19, 20, 41, 42, 43] [(0, (iv p0)), (2, (.pointer (some ⟨g_f1, 0, none⟩))), (3, (.pointer (some ⟨g_f2, 0, none⟩))), (4, (.pointer (some ⟨g_f3, 0, none⟩))), (5, (.pointer (some ⟨g_f4, 0, none⟩))), (18, (.slice A_f2 f2.length c_f2)), (19, (iv (f2.length : Int))), (20, (iv x984)), (41, (.slice A981 l983.length c982)), (42, (iv p0)), (43, (iv x984))] [.cell ⟨g_f3, 0, none⟩ (.slice A981 l983.length c982)] (fun fb => by kernel_rfl) rfl ⟨hS1032.cell 3 rfl 0 rfl, trivial⟩ ?_
      obtain ⟨h1060, hx1058⟩ := as_some hx1058
      refine seg 4 [] [0, 2, 3, 4, 5, 18, 19, 20, 43, 44] [(0, (iv p0)), (2, (.pointer (some ⟨g_f1, 0, none⟩))), (3, (.pointer (some ⟨g_f2, 0, none⟩))), (4, (.pointer (some ⟨g_f3, 0, none⟩))), (5, (.pointer (some ⟨g_f4, 0, none⟩))), (18, (.slice A_f2 f2.length c_f2)), (19, (iv (f2.length : Int))), (20, (iv x984)), (43, (iv x984)), (44, (.pointer (some ((adr A981).add ((p0).toNat * 1)))))] [.idx A981 p0 l983.length] (fun fb => by kernel_rfl) rfl ⟨rowR.adr (rowO.rd (hS1032.own 4).1) h1060.1 h1060.2, trivial⟩ ?_
      refine WL.storeRow hS1032 4 rfl (p0) (x984) (0) [(0, (iv x984))] (fun fb => by kernel_rfl) h1060.1 h1060.2 (by kernel_rfl) rfl [0, 1, 2, 3] (by decide) (by decide) (fun w1061 hS1062 => ?_)
      refine ⟨trivial, ?_⟩
      have hS1063 : St (fpL [blk g_f1 (.cells #[(.slice A_f1 f1.length c_f1)] 82 (0, 0)), rowO 88 encN_Row A_f1 c_f1 (tag H_f1 f1), poolO [nestO subN_Row H_f1 f1], blk g_f3 (.cells #[(.slice A_f3 f3.length c_f3)] 36 (0, 0)), rowO 3 encInt A_f3 c_f3 f3]) w w1061 [blk g_f0 (.cells #[(iv f0)] 3 (0, 0)), blk g_f2 (.cells #[(.slice A_f2 f2.length c_f2)] 22 (0, 0)), rowR enc_Tile A_f2 c_f2 f2, blk g_f4 (.cells #[(.func (.func 82) #[] #[(.pointer (some ⟨g_f0, 0, none⟩)), (.pointer (some ⟨g_f1, 0, none⟩)), (.pointer (some ⟨g_f2, 0, none⟩)), (.pointer (some ⟨g_f3, 0, none⟩)), (.pointer (some ⟨g_f4, 0, none⟩))])] 115 (0, 0))] [rowO 3 encInt A981 c982 (l983.set (p0).toNat x984), blk g_f1 (.cells #[(.slice A977 l979.length c978)] 82 (0, 0)), rowO 88 encN_Row A977 c978 (tag H980 l979), poolO [nestO subN_Row H980 l979], blk g_f3 (.cells #[(.slice A981 (l983.set (p0).toNat x984).length c982)] 36 (0, 0))] := by simpa only [List.length_set] using (show St (fpL [blk g_f1 (.cells #[(.slice A_f1 f1.length c_f1)] 82 (0, 0)), rowO 88 encN_Row A_f1 c_f1 (tag H_f1 f1), poolO [nestO subN_Row H_f1 f1], blk g_f3 (.cells #[(.slice A_f3 f3.length c_f3)] 36 (0, 0)), rowO 3 encInt A_f3 c_f3 f3]) w w1061 [blk g_f0 (.cells #[(iv f0)] 3 (0, 0)), blk g_f2 (.cells #[(.slice A_f2 f2.length c_f2)] 22 (0, 0)), rowR enc_Tile A_f2 c_f2 f2, blk g_f4 (.cells #[(.func (.func 82) #[] #[(.pointer (some ⟨g_f0, 0, none⟩)), (.pointer (some ⟨g_f1, 0, none⟩)), (.pointer (some ⟨g_f2, 0, none⟩)), (.pointer (some ⟨g_f3, 0, none⟩)), (.pointer (some ⟨g_f4, 0, none⟩))])] 115 (0, 0))] [rowO 3 encInt A981 c982 (l983.set (p0).toNat x984), blk g_f1 (.cells #[(.slice A977 l979.length c978)] 82 (0, 0)), rowO 88 encN_Row A977 c978 (tag H980 l979), poolO [nestO subN_Row H980 l979], blk g_f3 (.cells #[(.slice A981 l983.length c982)] 36 (0, 0))] from hS1062)
      refine WL.done rfl ?_
      refine WX.next ?_
      refine WC.region ?_
      refine seg 3 [.v (.func (.func 82) #[] #[(.pointer (some ⟨g_f0, 0, none⟩)), (.pointer (some ⟨g_f1, 0, none⟩)), (.pointer (some ⟨g_f2, 0, none⟩)), (.pointer (some ⟨g_f3, 0, none⟩)), (.pointer (some ⟨g_f4, 0, none⟩))])] [0, 2, 3, 4, 5, 18, 19, 20, 45, 47] [(0, (iv p0)), (2, (.pointer (some ⟨g_f1, 0, none⟩))), (3, (.pointer (some ⟨g_f2, 0, none⟩))), (4, (.pointer (some ⟨g_f3, 0, none⟩))), (5, (.pointer (some ⟨g_f4, 0, none⟩))), (18, (.slice A_f2 f2.length c_f2)), (19, (iv (f2.length : Int))), (20, (iv x984)), (45, (.func (.func 82) #[] #[(.pointer (some ⟨g_f0, 0, none⟩)), (.pointer (some ⟨g_f1, 0, none⟩)), (.pointer (some ⟨g_f2, 0, none⟩)), (.pointer (some ⟨g_f3, 0, none⟩)), (.pointer (some ⟨g_f4, 0, none⟩))])), (47, (iv (w64 (p0 + 1))))] [.cell ⟨g_f4, 0, none⟩ (.func (.func 82) #[] #[(.pointer (some ⟨g_f0, 0, none⟩)), (.pointer (some ⟨g_f1, 0, none⟩)), (.pointer (some ⟨g_f2, 0, none⟩)), (.pointer (some ⟨g_f3, 0, none⟩)), (.pointer (some ⟨g_f4, 0, none⟩))])] (fun fb => by kernel_rfl) rfl ⟨blk_cell (hS1063.rd 3).1 0 rfl, trivial⟩ ?_
      obtain ⟨t1064, ht1065, hx1058⟩ := bind_some hx1058
      refine WL.call (some 48) 82 #[(iv (w64 (p0 + 1))), (.pointer (some ⟨g_f0, 0, none⟩)), (.pointer (some ⟨g_f1, 0, none⟩)), (.pointer (some ⟨g_f2, 0, none⟩)), (.pointer (some ⟨g_f3, 0, none⟩)), (.pointer (some ⟨g_f4, 0, none⟩))] (fun fb => by kernel_rfl) (ih_ (w64 (p0 + 1)) f0 l979 f2 (l983.set (p0).toNat x984) g_f0 g_f1 A977 c978 H980 g_f2 A_f2 c_f2 g_f3 A981 c982 g_f4 t1064 _ (hS1063.rdT [1, 2, 3, 4, 0] 0) (hS1063.rdT [1, 2, 3, 4, 0] 1) (hS1063.rdT [1, 2, 3, 4, 0] 2) (hS1063.rdT [1, 2, 3, 4, 0] 3) (hS1063.io [1, 2, 3, 4, 0] (by decide)) ht1065) (fun v w1066 hR1067 => ?_)
      obtain ⟨A1069, c1070, H1071, A1072, c1073, rfl, hk_⟩ := hR1067
      have hS1068 : St (fpL [blk g_f1 (.cells #[(.slice A_f1 f1.length c_f1)] 82 (0, 0)), rowO 88 encN_Row A_f1 c_f1 (tag H_f1 f1), poolO [nestO subN_Row H_f1 f1], blk g_f3 (.cells #[(.slice A_f3 f3.length c_f3)] 36 (0, 0)), rowO 3 encInt A_f3 c_f3 f3]) w w1066 [blk g_f0 (.cells #[(iv f0)] 3 (0, 0)), blk g_f2 (.cells #[(.slice A_f2 f2.length c_f2)] 22 (0, 0)), rowR enc_Tile A_f2 c_f2 f2, blk g_f4 (.cells #[(.func (.func 82) #[] #[(.pointer (some ⟨g_f0, 0, none⟩)), (.pointer (some ⟨g_f1, 0, none⟩)), (.pointer (some ⟨g_f2, 0, none⟩)), (.pointer (some ⟨g_f3, 0, none⟩)), (.pointer (some ⟨g_f4, 0, none⟩))])] 115 (0, 0))] [blk g_f1 (.cells #[(.slice A1069 t1064.1.length c1070)] 82 (0, 0)), rowO 88 encN_Row A1069 c1070 (tag H1071 t1064.1), poolO [nestO subN_Row H1071 t1064.1], blk g_f3 (.cells #[(.slice A1072 t1064.2.length c1073)] 36 (0, 0)), rowO 3 encInt A1072 c1073 t1064.2] := hS1063.call hk_ [1, 2, 3, 4, 0] [] (fun g hg => fpL_sel g hg) (by decide) (by decide)
      refine ⟨trivial, ?_⟩
      refine WL.done rfl ?_
      injection hx1058 with hx1058
      exact WX.to Kx1057 ((t1064.1, t1064.2), A1069, c1070, H1071, A1072, c1073) [0, 2, 3, 4, 5, 18, 19, 20] rfl ⟨(hS1068.subR [0, 1, 2, 3]).sub [0, 1, 2, 3, 4] (by decide), hx1058.symm⟩
     refine WC.condF2 (fun fb => by kernel_rfl) h1059 ?_
     refine WC.skip ?_
     injection hx1058 with hx1058
     exact WX.to Kx1057 ((l979, l983), A977, c978, H980, A981, c982) [0, 2, 3, 4, 5, 18, 19, 20] rfl ⟨(hS1032.subR [0, 1, 2, 3]).sub [0, 1, 2, 3, 4] (by decide), hx1058.symm⟩
    rintro ⟨y1077, A1050, c1051, H1053, A1054, c1055⟩ w1074 ⟨hS1075, hq1076⟩
    subst hq1076
    refine WX.blockN (WX.next ?_)
    refine WC.region ?_
    refine seg 2 [] [0, 2, 3, 4, 5, 18, 19, 20] [(0, (iv p0)), (2, (.pointer (some ⟨g_f1, 0, none⟩))), (3, (.pointer (some ⟨g_f2, 0, none⟩))), (4, (.pointer (some ⟨g_f3, 0, none⟩))), (5, (.pointer (some ⟨g_f4, 0, none⟩))), (18, (.slice A_f2 f2.length c_f2)), (19, (iv (f2.length : Int))), (20, (iv (w64 (x984 + 1))))] [] (fun fb => by kernel_rfl) rfl trivial ?_
    refine WL.done rfl ?_
    exact WX.again k994 (Nat.lt_succ_self _) ((x1057.1, x1057.2, w64 (x984 + 1)), A1050, c1051, H1053, A1054, c1055) [0, 2, 3, 4, 5, 18, 19, 20] rfl ⟨(hS1075.subR [0, 1, 2, 3]).sub [0, 1, 2, 3, 4] (by decide), hl997⟩
   refine WC.condF2 (fun fb => by kernel_rfl) h998 ?_
   refine WC.exit ?_
   injection hl997 with hl997
   exact WX.thenX (WX.thenX (WX.blockHere (WX.to Kx992 ((l979, l983), A977, c978, H980, A981, c982) [2, 4] rfl ⟨(hS996.subR [0, 1, 2, 3]).sub [0, 1, 2, 3, 4] (by decide), hl997.symm⟩)))
 rintro ⟨y1081, A985, c986, H988, A989, c990⟩ w1078 ⟨hS1079, hq1080⟩
 subst hq1080
 injection hf with hf
 subst hf
 exact WX.end_ [] (.tuple #[]) [] (fun fb => by kernel_rfl) trivial ⟨_, rfl, A985, c986, H988, A989, c990, rfl, (hS1079.sub [0, 1, 2, 3, 4] (by decide)).noR⟩
theorem rows_All_calls (k : Nat) (p0 : List Tile) (p1 : Int) (A_p0 : Option Addr) (c_p0 : Nat) (r : (List Row)) (w : World) (hR0 : RO NoS w (rowR enc_Tile A_p0 c_p0 p0)) (hf : rows_All k p0 p1 = some r) :
  CallsR Try.prog 67 #[(.slice A_p0 p0.length c_p0), (iv p1)] w (fun v w' => ∃ (A1_ : Option Addr), ∃ (c1_ : Nat), ∃ (h1_ : Nat → HF), v = (.slice A1_ r.length c1_) ∧ St NoS w w' [] [rowO 88 encN_Row A1_ c1_ (tag h1_ r), poolO [nestO subN_Row h1_ r]]) := by
 have hS : St NoS w w [rowR enc_Tile A_p0 c_p0 p0] [] := St.init (ro_cons hR0 (ro_nil _ _))
 refine enter 14 Try.func67 rfl Try.ntmps67 rfl ?_
 unfold rows_All at hf
 refine WC.seq ?_
 refine WC.region ?_
 refine WL.new hS 2 [] (fun g => (.pointer (some ⟨g, 0, none⟩))) (.cells #[(.slice A_p0 p0.length c_p0)] 22 (0, 0)) [] (fun fb g => by kernel_rfl) trivial (fun g404 w405 hS406 => ?_)
 refine ⟨trivial, ?_⟩
 refine WL.new hS406 3 [] (fun g => (.pointer (some ⟨g, 0, none⟩))) (.cells #[(iv p1)] 3 (0, 0)) [] (fun fb g => by kernel_rfl) trivial (fun g408 w409 hS410 => ?_)
 refine ⟨trivial, ?_⟩
 refine seg 3 [] [2, 3] [(2, (pt g404)), (3, (pt g408))] [] (fun fb => by kernel_rfl) rfl trivial ?_
 refine WL.done rfl ?_
 refine WX.next ?_
 refine WC.seq ?_
 refine WC.region ?_
 refine WL.new hS410 5 [] (fun g => (.pointer (some ⟨g, 0, none⟩))) (.cells #[(.slice none 0 0)] 82 (0, 0)) [] (fun fb g => by kernel_rfl) trivial (fun g412 w413 hS414 => ?_)
 refine ⟨trivial, ?_⟩
 refine WL.done rfl ?_
 refine WX.next ?_
 refine WC.seq ?_
 refine WC.region ?_
 refine seg 1 [.v (iv p1)] [2, 3, 5, 8] [(2, (pt g404)), (3, (pt g408)), (5, (pt g412)), (8, (iv p1))] [.cell ⟨g408, 0, none⟩ (iv p1)] (fun fb => by kernel_rfl) rfl ⟨hS414.cell 1 rfl 0 rfl, trivial⟩ ?_
 obtain ⟨h416, hf⟩ := as_some hf
 refine WL.make hS414 (e := encInt) (T := 3) (tS := 36) (z := (iv 0)) (bytes := 8) (d := 9) (0 : Int) p1 (fun fb => by kernel_rfl) (by kernel_rfl) (by kernel_rfl) rfl (by decide) h416 (by decide) (fun g417 w418 hS419 => ?_)
 refine ⟨trivial, ?_⟩
 refine WL.new hS419 6 [] (fun g => (.pointer (some ⟨g, 0, none⟩))) (.cells #[(.slice none 0 0)] 36 (0, 0)) [] (fun fb g => by kernel_rfl) trivial (fun g420 w421 hS422 => ?_)
 refine ⟨trivial, ?_⟩
 refine WL.store hS422 0 rfl [(0, (.slice (some ⟨g417, 0, none⟩) (List.replicate p1.toNat (0 : Int)).length p1.toNat))] #[(.slice (some ⟨g417, 0, none⟩) (List.replicate p1.toNat (0 : Int)).length p1.toNat)] (fun fb => by kernel_rfl) (by kernel_rfl) rfl [1, 2, 3, 4] (by decide) (by decide) (fun w424 hS425 => ?_)
 refine ⟨trivial, ?_⟩
 refine WL.done rfl ?_
 refine WX.next ?_
 refine WC.seq ?_
 refine WC.region ?_
 refine WL.new hS425 7 [] (fun g => (.pointer (some ⟨g, 0, none⟩))) (.cells #[.nilFunc] 115 (0, 0)) [] (fun fb g => by kernel_rfl) trivial (fun g426 w427 hS428 => ?_)
 refine ⟨trivial, ?_⟩
 refine WL.done rfl ?_
 refine WX.next ?_
 refine WC.seq ?_
 refine WC.region ?_
 refine seg 1 [] [5, 7, 10] [(5, (pt g412)), (7, (pt g426)), (10, (.func (.func 82) #[] #[(pt g408), (pt g412), (pt g404), (pt g420), (pt g426)]))] [] (fun fb => by kernel_rfl) rfl trivial ?_
 refine WL.store hS428 0 rfl [(0, (.func (.func 82) #[] #[(pt g408), (pt g412), (pt g404), (pt g420), (pt g426)]))] #[(.func (.func 82) #[] #[(pt g408), (pt g412), (pt g404), (pt g420), (pt g426)])] (fun fb => by kernel_rfl) (by kernel_rfl) rfl [1, 2, 3, 4, 5] (by decide) (by decide) (fun w430 hS431 => ?_)
 refine ⟨trivial, ?_⟩
 refine WL.done rfl ?_
 refine WX.next ?_
 refine WC.seq ?_
 refine WC.region ?_
 refine seg 1 [.v (.func (.func 82) #[] #[(pt g408), (pt g412), (pt g404), (pt g420), (pt g426)])] [5, 11] [(5, (pt g412)), (11, (.func (.func 82) #[] #[(pt g408), (pt g412), (pt g404), (pt g420), (pt g426)]))] [.cell ⟨g426, 0, none⟩ (.func (.func 82) #[] #[(pt g408), (pt g412), (pt g404), (pt g420), (pt g426)])] (fun fb => by kernel_rfl) rfl ⟨hS431.cell 0 rfl 0 rfl, trivial⟩ ?_
 have hS1082 : St NoS w w430 [rowR enc_Tile A_p0 c_p0 p0] [rowO 88 encN_Row none 0 (tag h0 ([] : List Row)), blk g426 (.cells #[(.func (.func 82) #[] #[(pt g408), (pt g412), (pt g404), (pt g420), (pt g426)])] 115 (0, 0)), blk g420 (.cells #[(.slice (some ⟨g417, 0, none⟩) (List.replicate p1.toNat (0 : Int)).length p1.toNat)] 36 (0, 0)), rowO 3 encInt (some ⟨g417, 0, none⟩) p1.toNat (List.replicate p1.toNat (0 : Int)), blk g412 (.cells #[(.slice none 0 0)] 82 (0, 0)), blk g408 (.cells #[(iv p1)] 3 (0, 0)), blk g404 (.cells #[(.slice A_p0 p0.length c_p0)] 22 (0, 0))] := hS431.nilrow 88 encN_Row
 have hS1083 := hS1082.poolNil subN_Row h0
 obtain ⟨t1084, ht1085, hf⟩ := bind_some hf
 refine WL.call (some 12) 82 #[(iv 0), (pt g408), (pt g412), (pt g404), (pt g420), (pt g426)] (fun fb => by kernel_rfl) (rows_All_1_calls _ 0 p1 ([] : List Row) p0 (List.replicate p1.toNat (0 : Int)) g408 g412 none 0 h0 g404 A_p0 c_p0 g420 (some ⟨g417, 0, none⟩) p1.toNat g426 t1084 _ (hS1083.owT [5, 1, 0, 3, 4] 6 (by decide)) (hS1083.owT [5, 1, 0, 3, 4] 7 (by decide)) (hS1083.rdT [5, 1, 0, 3, 4] 0) (hS1083.owT [5, 1, 0, 3, 4] 2 (by decide)) (hS1083.io [5, 1, 0, 3, 4] (by decide)) ht1085) (fun v w1086 hR1087 => ?_)
 obtain ⟨A1089, c1090, H1091, A1092, c1093, rfl, hk_⟩ := hR1087
 have hS1088 : St NoS w w1086 [rowR enc_Tile A_p0 c_p0 p0] [blk g412 (.cells #[(.slice A1089 t1084.1.length c1090)] 82 (0, 0)), rowO 88 encN_Row A1089 c1090 (tag H1091 t1084.1), poolO [nestO subN_Row H1091 t1084.1], blk g420 (.cells #[(.slice A1092 t1084.2.length c1093)] 36 (0, 0)), rowO 3 encInt A1092 c1093 t1084.2, blk g426 (.cells #[(.func (.func 82) #[] #[(pt g408), (pt g412), (pt g404), (pt g420), (pt g426)])] 115 (0, 0)), blk g408 (.cells #[(iv p1)] 3 (0, 0)), blk g404 (.cells #[(.slice A_p0 p0.length c_p0)] 22 (0, 0))] := hS1083.call hk_ [5, 1, 0, 3, 4] [2, 6, 7] (fun g hg => fpL_sel g hg) (by decide) (by decide)
 refine ⟨trivial, ?_⟩
 refine WL.done rfl ?_
 refine WX.next ?_
 refine WC.seq ?_
 refine WC.region ?_
 refine seg 2 [.v (.slice A1089 t1084.1.length c1090)] [4] [(4, (.slice A1089 t1084.1.length c1090))] [.cell ⟨g412, 0, none⟩ (.slice A1089 t1084.1.length c1090)] (fun fb => by kernel_rfl) rfl ⟨hS1088.cell 0 rfl 0 rfl, trivial⟩ ?_
 refine WL.done rfl ?_
 refine WX.next ?_
 refine WC.ret ?_
 injection hf with hf
 subst hf
 exact WX.ret_ [] (.slice A1089 t1084.1.length c1090) [] (fun fb => by kernel_rfl) trivial ⟨_, rfl, A1089, c1090, H1091, rfl, (hS1088.sub [1, 2] (by decide)).noR⟩
theorem fill_begin_calls (k : Nat) (p0 : List Tile) (p1 : Int) (p2 : Int) (p3 : Edges) (A_p0 : Option Addr) (c_p0 : Nat) (A_p3_North : Option Addr) (c_p3_North : Nat) (A_p3_East : Option Addr) (c_p3_East : Nat) (A_p3_South : Option Addr) (c_p3_South : Nat) (A_p3_West : Option Addr) (c_p3_West : Nat) (r : (Option Job) × Int) (w : World) (hR0 : RO NoS w (rowR enc_Tile A_p0 c_p0 p0)) (hR1 : RO NoS w (rowR encInt A_p3_North c_p3_North p3.North)) (hR2 : RO NoS w (rowR encInt A_p3_East c_p3_East p3.East)) (hR3 : RO NoS w (rowR encInt A_p3_South c_p3_South p3.South)) (hR4 : RO NoS w (rowR encInt A_p3_West c_p3_West p3.West)) (hf : fill_begin k p0 p1 p2 p3 = some r) :
  CallsR Try.prog 54 #[(.slice A_p0 p0.length c_p0), (iv p1), (iv p2), (.agg #[(.slice A_p3_North p3.North.length c_p3_North), (.slice A_p3_East p3.East.length c_p3_East), (.slice A_p3_South p3.South.length c_p3_South), (.slice A_p3_West p3.West.length c_p3_West)])] w (fun v w' => ∃ (g1_ : Nat), ∃ (A2_ : Option Addr), ∃ (c2_ : Nat), ∃ (h2_ : Nat → HF), v = (.tuple #[(optP r.1 g1_), (iv r.2)]) ∧ optS r.1 (Keeps NoS w w') (fun y_ => St NoS w w' [] [blk g1_ (.cells #[(.slice A2_ y_.rows.length c2_), (iv y_.width), (iv y_.height), (.slice A_p3_North p3.North.length c_p3_North), (.slice A_p3_East p3.East.length c_p3_East), (.slice A_p3_South p3.South.length c_p3_South), (.slice A_p3_West p3.West.length c_p3_West)] 84 (0, 0)), rowO 88 encN_Row A2_ c2_ (tag h2_ y_.rows), poolO [nestO subN_Row h2_ y_.rows]])) := by
 have hS : St NoS w w [rowR enc_Tile A_p0 c_p0 p0, rowR encInt A_p3_North c_p3_North p3.North, rowR encInt A_p3_East c_p3_East p3.East, rowR encInt A_p3_South c_p3_South p3.South, rowR encInt A_p3_West c_p3_West p3.West] [] := St.init (ro_cons hR0 (ro_cons hR1 (ro_cons hR2 (ro_cons hR3 (ro_cons hR4 (ro_nil _ _))))))
 refine enter 76 Try.func54 rfl Try.ntmps54 rfl ?_
 unfold fill_begin at hf
 refine WC.seq ?_
 refine WC.region ?_
 refine WL.new hS 7 [] (fun g => (.pointer (some ⟨g, 0, none⟩))) (.cells #[(.slice A_p3_North p3.North.length c_p3_North), (.slice A_p3_East p3.East.length c_p3_East), (.slice A_p3_South p3.South.length c_p3_South), (.slice A_p3_West p3.West.length c_p3_West)] 57 (0, 0)) [] (fun fb g => by kernel_rfl) trivial (fun g1120 w1121 hS1122 => ?_)
 refine ⟨trivial, ?_⟩
 refine seg 3 [] [0, 1, 2, 7] [(0, (.slice A_p0 p0.length c_p0)), (1, (iv p1)), (2, (iv p2)), (7, (pt g1120))] [] (fun fb => by kernel_rfl) rfl trivial ?_
 refine WL.done rfl ?_
 refine WX.next ?_
 refine WC.seq ?_
 refine WC.seq ?_
 refine WC.region ?_
 refine seg 1 [] [0, 1, 2, 7, 12] [(0, (.slice A_p0 p0.length c_p0)), (1, (iv p1)), (2, (iv p2)), (7, (pt g1120)), (12, (.slice A_p0 p0.length c_p0))] [] (fun fb => by kernel_rfl) rfl trivial ?_
 obtain ⟨t1124, ht1125, hf⟩ := bind_some hf
 refine WL.call (some 13) 38 #[(.slice A_p0 p0.length c_p0)] (fun fb => by kernel_rfl) (tile_Valid_calls _ p0 A_p0 c_p0 t1124 _ (hS1122.rd 0) ht1125) (fun v w1126 hR1127 => ?_)
 obtain ⟨rfl, hk_⟩ := hR1127
 have hS1128 := hS1122.keepN hk_
 refine ⟨trivial, ?_⟩
 refine seg 3 [] [0, 1, 2, 7, 14] [(0, (.slice A_p0 p0.length c_p0)), (1, (iv p1)), (2, (iv p2)), (7, (pt g1120)), (14, (.bool (!t1124)))] [] (fun fb => by kernel_rfl) rfl trivial ?_
 refine WL.done rfl ?_
 refine WX.next ?_
 rcases br_some hf with ⟨h1129, hf⟩ | ⟨h1129, hf⟩
 ·refine WC.condT2 (fun fb => by kernel_rfl) h1129 ?_
  refine WC.seq ?_
  refine WC.region ?_
  refine seg 2 [] [8, 9] [(8, (.pointer none)), (9, (iv 1))] [] (fun fb => by kernel_rfl) rfl trivial ?_
  refine WL.done rfl ?_
  refine WX.next ?_
  refine WC.ret ?_
  injection hf with hf
  subst hf
  exact WX.thenR (WX.ret_ [] (.tuple #[(.pointer none), (iv 1)]) [] (fun fb => by kernel_rfl) trivial ⟨_, rfl, 0, none, 0, h0, rfl, hS1128.keep⟩)
 refine WC.condF2 (fun fb => by kernel_rfl) h1129 ?_
 refine WC.skip ?_
 refine WX.next ?_
 refine WC.seq ?_
 refine WC.seq ?_
 refine WC.region ?_
 refine seg 3 [] [0, 1, 2, 7, 17] [(0, (.slice A_p0 p0.length c_p0)), (1, (iv p1)), (2, (iv p2)), (7, (pt g1120)), (17, (.bool (decide (p1 < 1))))] [] (fun fb => by kernel_rfl) rfl trivial ?_
 refine WL.cutV (T := Bool) 6 (fun t => [(20, (.bool t)), (0, (.slice A_p0 p0.length c_p0)), (1, (iv p1)), (2, (iv p2)), (7, (pt g1120))]) (fun t => ((decide (p1 < 1)) || (decide (p1 > 8))) = t) (fun K => ?_) ?_
 ·
  rcases Bool.eq_false_or_eq_true (decide (p1 < 1)) with h1130 | h1130
  ·
   refine WL.setB 17 h1130 rfl ?_
   refine seg 6 [] [0, 1, 2, 7, 20] [(0, (.slice A_p0 p0.length c_p0)), (1, (iv p1)), (2, (iv p2)), (7, (pt g1120)), (20, (.bool true))] [] (fun fb => by kernel_rfl) rfl trivial ?_
   exact WL.toV K true [20, 0, 1, 2, 7] rfl (by first | (rw [h1130]; done) | (rw [h1130]; rfl))
  refine WL.setB 17 h1130 rfl ?_
  refine seg 6 [] [0, 1, 2, 7, 20] [(0, (.slice A_p0 p0.length c_p0)), (1, (iv p1)), (2, (iv p2)), (7, (pt g1120)), (20, (.bool (decide (p1 > 8))))] [] (fun fb => by kernel_rfl) rfl trivial ?_
  exact WL.toV K (decide (p1 > 8)) [20, 0, 1, 2, 7] rfl (by first | (rw [h1130]; done) | (rw [h1130]; rfl))
 rintro b1131 rfl
 refine seg 7 [] [0, 1, 2, 7, 21] [(0, (.slice A_p0 p0.length c_p0)), (1, (iv p1)), (2, (iv p2)), (7, (pt g1120)), (21, (.bool ((decide (p1 < 1)) || (decide (p1 > 8)))))] [] (fun fb => by kernel_rfl) rfl trivial ?_
 refine WL.cutV (T := Bool) 10 (fun t => [(24, (.bool t)), (0, (.slice A_p0 p0.length c_p0)), (1, (iv p1)), (2, (iv p2)), (7, (pt g1120))]) (fun t => (((decide (p1 < 1)) || (decide (p1 > 8))) || (decide (p2 < 1))) = t) (fun K => ?_) ?_
 ·
  rcases Bool.eq_false_or_eq_true ((decide (p1 < 1)) || (decide (p1 > 8))) with h1132 | h1132
  ·
   refine WL.setB 21 h1132 rfl ?_
   refine seg 10 [] [0, 1, 2, 7, 24] [(0, (.slice A_p0 p0.length c_p0)), (1, (iv p1)), (2, (iv p2)), (7, (pt g1120)), (24, (.bool true))] [] (fun fb => by kernel_rfl) rfl trivial ?_
   exact WL.toV K true [24, 0, 1, 2, 7] rfl (by first | (rw [h1132]; done) | (rw [h1132]; rfl))
  refine WL.setB 21 h1132 rfl ?_
  refine seg 10 [] [0, 1, 2, 7, 24] [(0, (.slice A_p0 p0.length c_p0)), (1, (iv p1)), (2, (iv p2)), (7, (pt g1120)), (24, (.bool (decide (p2 < 1))))] [] (fun fb => by kernel_rfl) rfl trivial ?_
  exact WL.toV K (decide (p2 < 1)) [24, 0, 1, 2, 7] rfl (by first | (rw [h1132]; done) | (rw [h1132]; rfl))
 rintro b1133 rfl
 refine seg 11 [] [0, 1, 2, 7, 25] [(0, (.slice A_p0 p0.length c_p0)), (1, (iv p1)), (2, (iv p2)), (7, (pt g1120)), (25, (.bool (((decide (p1 < 1)) || (decide (p1 > 8))) || (decide (p2 < 1)))))] [] (fun fb => by kernel_rfl) rfl trivial ?_
 refine WL.cutV (T := Bool) 14 (fun t => [(28, (.bool t)), (0, (.slice A_p0 p0.length c_p0)), (1, (iv p1)), (2, (iv p2)), (7, (pt g1120))]) (fun t => ((((decide (p1 < 1)) || (decide (p1 > 8))) || (decide (p2 < 1))) || (decide (p2 > 60))) = t) (fun K => ?_) ?_
 ·
  rcases Bool.eq_false_or_eq_true (((decide (p1 < 1)) || (decide (p1 > 8))) || (decide (p2 < 1))) with h1134 | h1134
  ·
   refine WL.setB 25 h1134 rfl ?_
   refine seg 14 [] [0, 1, 2, 7, 28] [(0, (.slice A_p0 p0.length c_p0)), (1, (iv p1)), (2, (iv p2)), (7, (pt g1120)), (28, (.bool true))] [] (fun fb => by kernel_rfl) rfl trivial ?_
   exact WL.toV K true [28, 0, 1, 2, 7] rfl (by first | (rw [h1134]; done) | (rw [h1134]; rfl))
  refine WL.setB 25 h1134 rfl ?_
  refine seg 14 [] [0, 1, 2, 7, 28] [(0, (.slice A_p0 p0.length c_p0)), (1, (iv p1)), (2, (iv p2)), (7, (pt g1120)), (28, (.bool (decide (p2 > 60))))] [] (fun fb => by kernel_rfl) rfl trivial ?_
  exact WL.toV K (decide (p2 > 60)) [28, 0, 1, 2, 7] rfl (by first | (rw [h1134]; done) | (rw [h1134]; rfl))
 rintro b1135 rfl
 refine WL.done rfl ?_
 refine WX.next ?_
 rcases br_some hf with ⟨h1136, hf⟩ | ⟨h1136, hf⟩
 ·refine WC.condT2 (fun fb => by kernel_rfl) h1136 ?_
  refine WC.seq ?_
  refine WC.region ?_
  refine seg 2 [] [8, 9] [(8, (.pointer none)), (9, (iv 2))] [] (fun fb => by kernel_rfl) rfl trivial ?_
  refine WL.done rfl ?_
  refine WX.next ?_
  refine WC.ret ?_
  injection hf with hf
  subst hf
  exact WX.thenR (WX.ret_ [] (.tuple #[(.pointer none), (iv 2)]) [] (fun fb => by kernel_rfl) trivial ⟨_, rfl, 0, none, 0, h0, rfl, hS1128.keep⟩)
 refine WC.condF2 (fun fb => by kernel_rfl) h1136 ?_
 refine WC.skip ?_
 refine WX.next ?_
 refine WC.seq ?_
 refine WC.seq ?_
 refine WC.region ?_
 refine seg 16 [.v (.slice A_p3_North p3.North.length c_p3_North), .v (.slice A_p3_South p3.South.length c_p3_South), .v (.slice A_p3_East p3.East.length c_p3_East), .v (.slice A_p3_West p3.West.length c_p3_West)] [0, 1, 2, 7, 32, 36, 40, 44] [(0, (.slice A_p0 p0.length c_p0)), (1, (iv p1)), (2, (iv p2)), (7, (pt g1120)), (32, (.agg #[(.slice A_p3_North p3.North.length c_p3_North), (iv p1)])), (36, (.agg #[(.slice A_p3_South p3.South.length c_p3_South), (iv p1)])), (40, (.agg #[(.slice A_p3_East p3.East.length c_p3_East), (iv p2)])), (44, (.agg #[(.slice A_p3_West p3.West.length c_p3_West), (iv p2)]))] [.cell ⟨g1120, 0, none⟩ (.slice A_p3_North p3.North.length c_p3_North), .cell ⟨g1120, 2, none⟩ (.slice A_p3_South p3.South.length c_p3_South), .cell ⟨g1120, 1, none⟩ (.slice A_p3_East p3.East.length c_p3_East), .cell ⟨g1120, 3, none⟩ (.slice A_p3_West p3.West.length c_p3_West)] (fun fb => by kernel_rfl) rfl ⟨hS1128.cell 0 rfl 0 rfl, hS1128.cell 0 rfl 2 rfl, hS1128.cell 0 rfl 1 rfl, hS1128.cell 0 rfl 3 rfl, trivial⟩ ?_
 refine WL.new hS1128 45 [] (fun g => (.slice (some ⟨g, 0, none⟩) 4 4)) (.cells #[(.slice A_p3_North p3.North.length c_p3_North), (iv p1), (.slice A_p3_South p3.South.length c_p3_South), (iv p1), (.slice A_p3_East p3.East.length c_p3_East), (iv p2), (.slice A_p3_West p3.West.length c_p3_West), (iv p2)] 108 (0, 0)) [] (fun fb g => by kernel_rfl) trivial (fun g1137 w1138 hS1139 => ?_)
 refine ⟨trivial, ?_⟩
 have hS1142 : St NoS w w1138 [nestO subN_S108 (hlN [(hd1 A_p3_North c_p3_North), (hd1 A_p3_South c_p3_South), (hd1 A_p3_East c_p3_East), (hd1 A_p3_West c_p3_West)]) [(S108.mk p3.North p1), (S108.mk p3.South p1), (S108.mk p3.East p2), (S108.mk p3.West p2)], rowR enc_Tile A_p0 c_p0 p0, rowR encInt A_p3_North c_p3_North p3.North, rowR encInt A_p3_East c_p3_East p3.East, rowR encInt A_p3_South c_p3_South p3.South, rowR encInt A_p3_West c_p3_West p3.West] [blk g1137 (.cells #[(.slice A_p3_North p3.North.length c_p3_North), (iv p1), (.slice A_p3_South p3.South.length c_p3_South), (iv p1), (.slice A_p3_East p3.East.length c_p3_East), (iv p2), (.slice A_p3_West p3.West.length c_p3_West), (iv p2)] 108 (0, 0)), blk g1120 (.cells #[(.slice A_p3_North p3.North.length c_p3_North), (.slice A_p3_East p3.East.length c_p3_East), (.slice A_p3_South p3.South.length c_p3_South), (.slice A_p3_West p3.West.length c_p3_West)] 57 (0, 0))] := hS1139.addR _ (nestO_cons (hS1139.rdL 1) (nestO_cons (hS1139.rdL 3) (nestO_cons (hS1139.rdL 2) (nestO_cons (hS1139.rdL 4) (nestO_nil _ _ _ _)))))
 have hS1141 : St NoS w w1138 [nestO subN_S108 (hlN [(hd1 A_p3_North c_p3_North), (hd1 A_p3_South c_p3_South), (hd1 A_p3_East c_p3_East), (hd1 A_p3_West c_p3_West)]) [(S108.mk p3.North p1), (S108.mk p3.South p1), (S108.mk p3.East p2), (S108.mk p3.West p2)], rowR enc_Tile A_p0 c_p0 p0, rowR encInt A_p3_North c_p3_North p3.North, rowR encInt A_p3_East c_p3_East p3.East, rowR encInt A_p3_South c_p3_South p3.South, rowR encInt A_p3_West c_p3_West p3.West] [rowO 108 encN_S108 (some ⟨g1137, 0, none⟩) 4 (tag (hlN [(hd1 A_p3_North c_p3_North), (hd1 A_p3_South c_p3_South), (hd1 A_p3_East c_p3_East), (hd1 A_p3_West c_p3_West)]) [(S108.mk p3.North p1), (S108.mk p3.South p1), (S108.mk p3.East p2), (S108.mk p3.West p2)]), blk g1120 (.cells #[(.slice A_p3_North p3.North.length c_p3_North), (.slice A_p3_East p3.East.length c_p3_East), (.slice A_p3_South p3.South.length c_p3_South), (.slice A_p3_West p3.West.length c_p3_West)] 57 (0, 0))] := hS1142.map1 0 _ (fun h => rowO.ofBlk h rfl (Nat.le_of_ble_eq_true (by kernel_rfl))) (fun _ h => by obtain ⟨_, h1, h2⟩ := h; injection h1 with h1; subst h1; exact h2) [1] (by decide) (by decide)
 refine seg 19 [] [0, 1, 2, 7, 45, 46, 47] [(0, (.slice A_p0 p0.length c_p0)), (1, (iv p1)), (2, (iv p2)), (7, (pt g1120)), (45, (.slice (some ⟨g1137, 0, none⟩) [(S108.mk p3.North p1), (S108.mk p3.South p1), (S108.mk p3.East p2), (S108.mk p3.West p2)].length 4)), (46, (iv ([(S108.mk p3.North p1), (S108.mk p3.South p1), (S108.mk p3.East p2), (S108.mk p3.West p2)].length : Int))), (47, (iv 0))] [] (fun fb => by kernel_rfl) rfl trivial ?_
 refine WL.done rfl ?_
 refine WX.next ?_
 obtain ⟨x1167, hx1168, hf⟩ := bind_some hf
 refine WC.cutN (T := Unit) (fun t => [(0, (.slice A_p0 p0.length c_p0)), (1, (iv p1)), (2, (iv p2)), (7, (pt g1120))]) (fun t w1 => St NoS w w1 [nestO subN_S108 (hlN [(hd1 A_p3_North c_p3_North), (hd1 A_p3_South c_p3_South), (hd1 A_p3_East c_p3_East), (hd1 A_p3_West c_p3_West)]) [(S108.mk p3.North p1), (S108.mk p3.South p1), (S108.mk p3.East p2), (S108.mk p3.West p2)], rowR enc_Tile A_p0 c_p0 p0, rowR encInt A_p3_North c_p3_North p3.North, rowR encInt A_p3_East c_p3_East p3.East, rowR encInt A_p3_South c_p3_South p3.South, rowR encInt A_p3_West c_p3_West p3.West] [blk g1120 (.cells #[(.slice A_p3_North p3.North.length c_p3_North), (.slice A_p3_East p3.East.length c_p3_East), (.slice A_p3_South p3.South.length c_p3_South), (.slice A_p3_West p3.West.length c_p3_West)] 57 (0, 0))] ∧ x1167 = .inr t) (fun Kx1167 => ?_) ?_
 ·
  refine WC.block ?_
  refine WC.loop (T := Int) (fun t => [(0, (.slice A_p0 p0.length c_p0)), (1, (iv p1)), (2, (iv p2)), (7, (pt g1120)), (45, (.slice (some ⟨g1137, 0, none⟩) [(S108.mk p3.North p1), (S108.mk p3.South p1), (S108.mk p3.East p2), (S108.mk p3.West p2)].length 4)), (46, (iv ([(S108.mk p3.North p1), (S108.mk p3.South p1), (S108.mk p3.East p2), (S108.mk p3.West p2)].length : Int))), (47, (iv t))]) (fun n t w1 => St NoS w w1 [nestO subN_S108 (hlN [(hd1 A_p3_North c_p3_North), (hd1 A_p3_South c_p3_South), (hd1 A_p3_East c_p3_East), (hd1 A_p3_West c_p3_West)]) [(S108.mk p3.North p1), (S108.mk p3.South p1), (S108.mk p3.East p2), (S108.mk p3.West p2)], rowR enc_Tile A_p0 c_p0 p0, rowR encInt A_p3_North c_p3_North p3.North, rowR encInt A_p3_East c_p3_East p3.East, rowR encInt A_p3_South c_p3_South p3.South, rowR encInt A_p3_West c_p3_West p3.West] [blk g1120 (.cells #[(.slice A_p3_North p3.North.length c_p3_North), (.slice A_p3_East p3.East.length c_p3_East), (.slice A_p3_South p3.South.length c_p3_South), (.slice A_p3_West p3.West.length c_p3_West)] 57 (0, 0)), rowO 108 encN_S108 (some ⟨g1137, 0, none⟩) 4 (tag (hlN [(hd1 A_p3_North c_p3_North), (hd1 A_p3_South c_p3_South), (hd1 A_p3_East c_p3_East), (hd1 A_p3_West c_p3_West)]) [(S108.mk p3.North p1), (S108.mk p3.South p1), (S108.mk p3.East p2), (S108.mk p3.West p2)])] ∧ fill_begin.l0 n t p1 p2 p3 = some x1167) k 0 [0, 1, 2, 7, 45, 46, 47] rfl ⟨(hS1141.subR [0, 1, 2, 3, 4, 5]).sub [1, 0] (by decide), hx1168⟩ ?_
  rintro k1169 x1166 w1170 ⟨hS1171, hl1172⟩
  cases k1169 with
  | zero => rw [fill_begin.l0] at hl1172; cases hl1172
  | succ k1169 =>
   rw [fill_begin.l0] at hl1172
   refine WC.seq ?_
   refine WC.region ?_
   refine seg 1 [] [0, 1, 2, 7, 45, 46, 47, 48] [(0, (.slice A_p0 p0.length c_p0)), (1, (iv p1)), (2, (iv p2)), (7, (pt g1120)), (45, (.slice (some ⟨g1137, 0, none⟩) [(S108.mk p3.North p1), (S108.mk p3.South p1), (S108.mk p3.East p2), (S108.mk p3.West p2)].length 4)), (46, (iv ([(S108.mk p3.North p1), (S108.mk p3.South p1), (S108.mk p3.East p2), (S108.mk p3.West p2)].length : Int))), (47, (iv x1166)), (48, (.bool (decide (x1166 < ([(S108.mk p3.North p1), (S108.mk p3.South p1), (S108.mk p3.East p2), (S108.mk p3.West p2)].length : Int)))))] [] (fun fb => by kernel_rfl) rfl trivial ?_
   refine WL.done rfl ?_
   refine WX.next ?_
   refine WC.seq ?_
   rcases br_some hl1172 with ⟨h1173, hl1172⟩ | ⟨h1173, hl1172⟩
   ·refine WC.condT2 (fun fb => by kernel_rfl) h1173 ?_
    refine WC.skip ?_
    refine WX.next ?_
    refine WC.seq ?_
    refine WC.block ?_
    refine WC.seq ?_
    refine WC.region ?_
    obtain ⟨h1174, hl1172⟩ := as_some hl1172
    refine seg 2 [.v (.slice (((hlN [(hd1 A_p3_North c_p3_North), (hd1 A_p3_South c_p3_South), (hd1 A_p3_East c_p3_East), (hd1 A_p3_West c_p3_West)]) x1166.toNat 0).1) ((rdD [(S108.mk p3.North p1), (S108.mk p3.South p1), (S108.mk p3.East p2), (S108.mk p3.West p2)] x1166 z_S108).side).length (((hlN [(hd1 A_p3_North c_p3_North), (hd1 A_p3_South c_p3_South), (hd1 A_p3_East c_p3_East), (hd1 A_p3_West c_p3_West)]) x1166.toNat 0).2)), .v (iv ((rdD [(S108.mk p3.North p1), (S108.mk p3.South p1), (S108.mk p3.East p2), (S108.mk p3.West p2)] x1166 z_S108).n))] [0, 1, 2, 7, 45, 46, 47, 50] [(0, (.slice A_p0 p0.length c_p0)), (1, (iv p1)), (2, (iv p2)), (7, (pt g1120)), (45, (.slice (some ⟨g1137, 0, none⟩) [(S108.mk p3.North p1), (S108.mk p3.South p1), (S108.mk p3.East p2), (S108.mk p3.West p2)].length 4)), (46, (iv ([(S108.mk p3.North p1), (S108.mk p3.South p1), (S108.mk p3.East p2), (S108.mk p3.West p2)].length : Int))), (47, (iv x1166)), (50, (.agg #[(.slice (((hlN [(hd1 A_p3_North c_p3_North), (hd1 A_p3_South c_p3_South), (hd1 A_p3_East c_p3_East), (hd1 A_p3_West c_p3_West)]) x1166.toNat 0).1) ((rdD [(S108.mk p3.North p1), (S108.mk p3.South p1), (S108.mk p3.East p2), (S108.mk p3.West p2)] x1166 z_S108).side).length (((hlN [(hd1 A_p3_North c_p3_North), (hd1 A_p3_South c_p3_South), (hd1 A_p3_East c_p3_East), (hd1 A_p3_West c_p3_West)]) x1166.toNat 0).2)), (iv ((rdD [(S108.mk p3.North p1), (S108.mk p3.South p1), (S108.mk p3.East p2), (S108.mk p3.West p2)] x1166 z_S108).n))]))] [.idx (some ⟨g1137, 0, none⟩) x1166 [(S108.mk p3.North p1), (S108.mk p3.South p1), (S108.mk p3.East p2), (S108.mk p3.West p2)].length, .cell ((adr (some ⟨g1137, 0, none⟩)).add ((x1166).toNat * 2)) (.slice (((hlN [(hd1 A_p3_North c_p3_North), (hd1 A_p3_South c_p3_South), (hd1 A_p3_East c_p3_East), (hd1 A_p3_West c_p3_West)]) x1166.toNat 0).1) ((rdD [(S108.mk p3.North p1), (S108.mk p3.South p1), (S108.mk p3.East p2), (S108.mk p3.West p2)] x1166 z_S108).side).length (((hlN [(hd1 A_p3_North c_p3_North), (hd1 A_p3_South c_p3_South), (hd1 A_p3_East c_p3_East), (hd1 A_p3_West c_p3_West)]) x1166.toNat 0).2)), .cell (((adr (some ⟨g1137, 0, none⟩)).add ((x1166).toNat * 2)).add 1) (iv ((rdD [(S108.mk p3.North p1), (S108.mk p3.South p1), (S108.mk p3.East p2), (S108.mk p3.West p2)] x1166 z_S108).n))] (fun fb => by kernel_rfl) rfl ⟨nrow_adr (rowO.rd (hS1171.own 1).1) h1174.1 h1174.2, nrow_cell (rowO.rd (hS1171.own 1).1) z_S108 h1174.1 h1174.2 0 rfl, nrow_cell (rowO.rd (hS1171.own 1).1) z_S108 h1174.1 h1174.2 1 rfl, trivial⟩ ?_
    refine WL.new hS1171 11 [] (fun g => (.pointer (some ⟨g, 0, none⟩))) (.cells #[(.slice none 0 0), (iv 0)] 108 (0, 0)) [] (fun fb g => by kernel_rfl) trivial (fun g1175 w1176 hS1177 => ?_)
    refine ⟨trivial, ?_⟩
    refine WL.store hS1177 0 rfl [(0, (.slice (((hlN [(hd1 A_p3_North c_p3_North), (hd1 A_p3_South c_p3_South), (hd1 A_p3_East c_p3_East), (hd1 A_p3_West c_p3_West)]) x1166.toNat 0).1) ((rdD [(S108.mk p3.North p1), (S108.mk p3.South p1), (S108.mk p3.East p2), (S108.mk p3.West p2)] x1166 z_S108).side).length (((hlN [(hd1 A_p3_North c_p3_North), (hd1 A_p3_South c_p3_South), (hd1 A_p3_East c_p3_East), (hd1 A_p3_West c_p3_West)]) x1166.toNat 0).2))), (1, (iv ((rdD [(S108.mk p3.North p1), (S108.mk p3.South p1), (S108.mk p3.East p2), (S108.mk p3.West p2)] x1166 z_S108).n)))] #[(.slice (((hlN [(hd1 A_p3_North c_p3_North), (hd1 A_p3_South c_p3_South), (hd1 A_p3_East c_p3_East), (hd1 A_p3_West c_p3_West)]) x1166.toNat 0).1) ((rdD [(S108.mk p3.North p1), (S108.mk p3.South p1), (S108.mk p3.East p2), (S108.mk p3.West p2)] x1166 z_S108).side).length (((hlN [(hd1 A_p3_North c_p3_North), (hd1 A_p3_South c_p3_South), (hd1 A_p3_East c_p3_East), (hd1 A_p3_West c_p3_West)]) x1166.toNat 0).2)), (iv ((rdD [(S108.mk p3.North p1), (S108.mk p3.South p1), (S108.mk p3.East p2), (S108.mk p3.West p2)] x1166 z_S108).n))] (fun fb => by kernel_rfl) (by kernel_rfl) rfl [1, 2] (by decide) (by decide) (fun w1179 hS1180 => ?_)
    refine ⟨trivial, ?_⟩
    refine WL.done rfl ?_
    refine WX.next ?_
    refine WC.seq ?_
    refine WC.region ?_
    refine seg 5 [.v (.slice (((hlN [(hd1 A_p3_North c_p3_North), (hd1 A_p3_South c_p3_South), (hd1 A_p3_East c_p3_East), (hd1 A_p3_West c_p3_West)]) x1166.toNat 0).1) ((rdD [(S108.mk p3.North p1), (S108.mk p3.South p1), (S108.mk p3.East p2), (S108.mk p3.West p2)] x1166 z_S108).side).length (((hlN [(hd1 A_p3_North c_p3_North), (hd1 A_p3_South c_p3_South), (hd1 A_p3_East c_p3_East), (hd1 A_p3_West c_p3_West)]) x1166.toNat 0).2))] [0, 1, 2, 7, 11, 45, 46, 47, 55] [(0, (.slice A_p0 p0.length c_p0)), (1, (iv p1)), (2, (iv p2)), (7, (pt g1120)), (11, (pt g1175)), (45, (.slice (some ⟨g1137, 0, none⟩) [(S108.mk p3.North p1), (S108.mk p3.South p1), (S108.mk p3.East p2), (S108.mk p3.West p2)].length 4)), (46, (iv ([(S108.mk p3.North p1), (S108.mk p3.South p1), (S108.mk p3.East p2), (S108.mk p3.West p2)].length : Int))), (47, (iv x1166)), (55, (.bool ((((rdD [(S108.mk p3.North p1), (S108.mk p3.South p1), (S108.mk p3.East p2), (S108.mk p3.West p2)] x1166 z_S108).side).length : Int) != 0)))] [.cell ⟨g1175, 0, none⟩ (.slice (((hlN [(hd1 A_p3_North c_p3_North), (hd1 A_p3_South c_p3_South), (hd1 A_p3_East c_p3_East), (hd1 A_p3_West c_p3_West)]) x1166.toNat 0).1) ((rdD [(S108.mk p3.North p1), (S108.mk p3.South p1), (S108.mk p3.East p2), (S108.mk p3.West p2)] x1166 z_S108).side).length (((hlN [(hd1 A_p3_North c_p3_North), (hd1 A_p3_South c_p3_South), (hd1 A_p3_East c_p3_East), (hd1 A_p3_West c_p3_West)]) x1166.toNat 0).2))] (fun fb => by kernel_rfl) rfl ⟨hS1180.cell 0 rfl 0 rfl, trivial⟩ ?_
    refine WL.cutV (T := Bool) 12 (fun t => [(62, (.bool t)), (0, (.slice A_p0 p0.length c_p0)), (1, (iv p1)), (2, (iv p2)), (7, (pt g1120)), (45, (.slice (some ⟨g1137, 0, none⟩) [(S108.mk p3.North p1), (S108.mk p3.South p1), (S108.mk p3.East p2), (S108.mk p3.West p2)].length 4)), (46, (iv ([(S108.mk p3.North p1), (S108.mk p3.South p1), (S108.mk p3.East p2), (S108.mk p3.West p2)].length : Int))), (47, (iv x1166))]) (fun t => (((((rdD [(S108.mk p3.North p1), (S108.mk p3.South p1), (S108.mk p3.East p2), (S108.mk p3.West p2)] x1166 z_S108).side).length : Int) != 0) && ((((rdD [(S108.mk p3.North p1), (S108.mk p3.South p1), (S108.mk p3.East p2), (S108.mk p3.West p2)] x1166 z_S108).side).length : Int) != ((rdD [(S108.mk p3.North p1), (S108.mk p3.South p1), (S108.mk p3.East p2), (S108.mk p3.West p2)] x1166 z_S108).n))) = t) (fun K => ?_) ?_
    ·
     rcases Bool.eq_false_or_eq_true ((((rdD [(S108.mk p3.North p1), (S108.mk p3.South p1), (S108.mk p3.East p2), (S108.mk p3.West p2)] x1166 z_S108).side).length : Int) != 0) with h1181 | h1181
     ·
      refine WL.setB 55 h1181 rfl ?_
      refine seg 12 [.v (.slice (((hlN [(hd1 A_p3_North c_p3_North), (hd1 A_p3_South c_p3_South), (hd1 A_p3_East c_p3_East), (hd1 A_p3_West c_p3_West)]) x1166.toNat 0).1) ((rdD [(S108.mk p3.North p1), (S108.mk p3.South p1), (S108.mk p3.East p2), (S108.mk p3.West p2)] x1166 z_S108).side).length (((hlN [(hd1 A_p3_North c_p3_North), (hd1 A_p3_South c_p3_South), (hd1 A_p3_East c_p3_East), (hd1 A_p3_West c_p3_West)]) x1166.toNat 0).2)), .v (iv ((rdD [(S108.mk p3.North p1), (S108.mk p3.South p1), (S108.mk p3.East p2), (S108.mk p3.West p2)] x1166 z_S108).n))] [0, 1, 2, 7, 45, 46, 47, 62] [(0, (.slice A_p0 p0.length c_p0)), (1, (iv p1)), (2, (iv p2)), (7, (pt g1120)), (45, (.slice (some ⟨g1137, 0, none⟩) [(S108.mk p3.North p1), (S108.mk p3.South p1), (S108.mk p3.East p2), (S108.mk p3.West p2)].length 4)), (46, (iv ([(S108.mk p3.North p1), (S108.mk p3.South p1), (S108.mk p3.East p2), (S108.mk p3.West p2)].length : Int))), (47, (iv x1166)), (62, (.bool ((((rdD [(S108.mk p3.North p1), (S108.mk p3.South p1), (S108.mk p3.East p2), (S108.mk p3.West p2)] x1166 z_S108).side).length : Int) != ((rdD [(S108.mk p3.North p1), (S108.mk p3.South p1), (S108.mk p3.East p2), (S108.mk p3.West p2)] x1166 z_S108).n))))] [.cell ⟨g1175, 0, none⟩ (.slice (((hlN [(hd1 A_p3_North c_p3_North), (hd1 A_p3_South c_p3_South), (hd1 A_p3_East c_p3_East), (hd1 A_p3_West c_p3_West)]) x1166.toNat 0).1) ((rdD [(S108.mk p3.North p1), (S108.mk p3.South p1), (S108.mk p3.East p2), (S108.mk p3.West p2)] x1166 z_S108).side).length (((hlN [(hd1 A_p3_North c_p3_North), (hd1 A_p3_South c_p3_South), (hd1 A_p3_East c_p3_East), (hd1 A_p3_West c_p3_West)]) x1166.toNat 0).2)), .cell ⟨g1175, 1, none⟩ (iv ((rdD [(S108.mk p3.North p1), (S108.mk p3.South p1), (S108.mk p3.East p2), (S108.mk p3.West p2)] x1166 z_S108).n))] (fun fb => by kernel_rfl) rfl ⟨hS1180.cell 0 rfl 0 rfl, hS1180.cell 0 rfl 1 rfl, trivial⟩ ?_
      exact WL.toV K ((((rdD [(S108.mk p3.North p1), (S108.mk p3.South p1), (S108.mk p3.East p2), (S108.mk p3.West p2)] x1166 z_S108).side).length : Int) != ((rdD [(S108.mk p3.North p1), (S108.mk p3.South p1), (S108.mk p3.East p2), (S108.mk p3.West p2)] x1166 z_S108).n)) [62, 0, 1, 2, 7, 45, 46, 47] rfl (by first | (rw [h1181]; done) | (rw [h1181]; rfl))
     refine WL.setB 55 h1181 rfl ?_
     refine seg 12 [] [0, 1, 2, 7, 45, 46, 47, 62] [(0, (.slice A_p0 p0.length c_p0)), (1, (iv p1)), (2, (iv p2)), (7, (pt g1120)), (45, (.slice (some ⟨g1137, 0, none⟩) [(S108.mk p3.North p1), (S108.mk p3.South p1), (S108.mk p3.East p2), (S108.mk p3.West p2)].length 4)), (46, (iv ([(S108.mk p3.North p1), (S108.mk p3.South p1), (S108.mk p3.East p2), (S108.mk p3.West p2)].length : Int))), (47, (iv x1166)), (62, (.bool false))] [] (fun fb => by kernel_rfl) rfl trivial ?_
     exact WL.toV K false [62, 0, 1, 2, 7, 45, 46, 47] rfl (by first | (rw [h1181]; done) | (rw [h1181]; rfl))
    rintro b1182 rfl
    refine WL.done rfl ?_
    refine WX.next ?_
    rcases br_some hl1172 with ⟨h1183, hl1172⟩ | ⟨h1183, hl1172⟩
    ·refine WC.condT2 (fun fb => by kernel_rfl) h1183 ?_
     refine WC.seq ?_
     refine WC.region ?_
     refine seg 2 [] [8, 9] [(8, (.pointer none)), (9, (iv 2))] [] (fun fb => by kernel_rfl) rfl trivial ?_
     refine WL.done rfl ?_
     refine WX.next ?_
     refine WC.ret ?_
     injection hl1172 with hl1172
     subst hl1172
     injection hf with hf
     subst hf
     exact WX.blockR (WX.thenR (WX.thenR (WX.blockR (WX.thenR (WX.ret_ [] (.tuple #[(.pointer none), (iv 2)]) [] (fun fb => by kernel_rfl) trivial ⟨_, rfl, 0, none, 0, h0, rfl, hS1180.keep⟩)))))
    refine WC.condF2 (fun fb => by kernel_rfl) h1183 ?_
    refine WC.skip ?_
    refine WX.blockN (WX.next ?_)
    refine WC.region ?_
    refine seg 2 [] [0, 1, 2, 7, 45, 46, 47] [(0, (.slice A_p0 p0.length c_p0)), (1, (iv p1)), (2, (iv p2)), (7, (pt g1120)), (45, (.slice (some ⟨g1137, 0, none⟩) [(S108.mk p3.North p1), (S108.mk p3.South p1), (S108.mk p3.East p2), (S108.mk p3.West p2)].length 4)), (46, (iv ([(S108.mk p3.North p1), (S108.mk p3.South p1), (S108.mk p3.East p2), (S108.mk p3.West p2)].length : Int))), (47, (iv (w64 (x1166 + 1))))] [] (fun fb => by kernel_rfl) rfl trivial ?_
    refine WL.done rfl ?_
    exact WX.again k1169 (Nat.lt_succ_self _) (w64 (x1166 + 1)) [0, 1, 2, 7, 45, 46, 47] rfl ⟨(hS1180.subR [0, 1, 2, 3, 4, 5]).sub [1, 2] (by decide), hl1172⟩
   refine WC.condF2 (fun fb => by kernel_rfl) h1173 ?_
   refine WC.exit ?_
   injection hl1172 with hl1172
   exact WX.thenX (WX.thenX (WX.blockHere (WX.to Kx1167 () [0, 1, 2, 7] rfl ⟨(hS1171.subR [0, 1, 2, 3, 4, 5]).sub [0] (by decide), hl1172.symm⟩)))
 rintro y1187 w1184 ⟨hS1185, hq1186⟩
 subst hq1186
 have hf := sum_inr hf
 refine WX.next ?_
 refine WC.seq ?_
 refine WC.seq ?_
 refine WC.region ?_
 refine seg 2 [] [0, 1, 2, 7, 64, 65] [(0, (.slice A_p0 p0.length c_p0)), (1, (iv p1)), (2, (iv p2)), (7, (pt g1120)), (64, (.slice A_p0 p0.length c_p0)), (65, (iv p1))] [] (fun fb => by kernel_rfl) rfl trivial ?_
 obtain ⟨t1189, ht1190, hf⟩ := bind_some hf
 refine WL.call (some 66) 45 #[(.slice A_p0 p0.length c_p0), (iv p1)] (fun fb => by kernel_rfl) (rows_Few_calls _ p0 p1 A_p0 c_p0 t1189 _ (hS1185.rd 1) ht1190) (fun v w1191 hR1192 => ?_)
 obtain ⟨rfl, hk_⟩ := hR1192
 have hS1193 := hS1185.keepN hk_
 refine ⟨trivial, ?_⟩
 refine seg 4 [] [0, 1, 2, 7, 67] [(0, (.slice A_p0 p0.length c_p0)), (1, (iv p1)), (2, (iv p2)), (7, (pt g1120)), (67, (.bool (!t1189)))] [] (fun fb => by kernel_rfl) rfl trivial ?_
 refine WL.done rfl ?_
 refine WX.next ?_
 rcases br_some hf with ⟨h1194, hf⟩ | ⟨h1194, hf⟩
 ·refine WC.condT2 (fun fb => by kernel_rfl) h1194 ?_
  refine WC.seq ?_
  refine WC.region ?_
  refine seg 2 [] [8, 9] [(8, (.pointer none)), (9, (iv 4))] [] (fun fb => by kernel_rfl) rfl trivial ?_
  refine WL.done rfl ?_
  refine WX.next ?_
  refine WC.ret ?_
  injection hf with hf
  subst hf
  exact WX.thenR (WX.ret_ [] (.tuple #[(.pointer none), (iv 4)]) [] (fun fb => by kernel_rfl) trivial ⟨_, rfl, 0, none, 0, h0, rfl, hS1193.keep⟩)
 refine WC.condF2 (fun fb => by kernel_rfl) h1194 ?_
 refine WC.skip ?_
 refine WX.next ?_
 refine WC.seq ?_
 refine WC.regionD ([(5, ⟨g1120, 0, none⟩, (.slice A_p3_North p3.North.length c_p3_North)), (5, ⟨g1120, 1, none⟩, (.slice A_p3_East p3.East.length c_p3_East)), (5, ⟨g1120, 2, none⟩, (.slice A_p3_South p3.South.length c_p3_South)), (5, ⟨g1120, 3, none⟩, (.slice A_p3_West p3.West.length c_p3_West))], [0, 1, 3, 4, 5, 6, 8, 9], [[], [], [0, 1], [], [], [], [0, 1, 2, 3, 4, 5], [0, 1, 2, 3, 4, 5, 6], [0, 1, 2, 3, 4, 5, 6, 7], [0, 1, 2, 3, 4, 5, 6, 7, 8]]) [[0, 1, 3, 4, 5, 2, 6, 7, 8, 9]] (by kernel_rfl) (by kernel_rfl) (NoPanic.seq (NoPanic.body)) ?_
 have hS1208 := hS1193.drew
 revert hS1208
 generalize World.drew w1191 = w1207
 intro hS1208
 refine ⟨⟨hS1208.cell 0 rfl 0 rfl, hS1208.cell 0 rfl 1 rfl, hS1208.cell 0 rfl 2 rfl, hS1208.cell 0 rfl 3 rfl, trivial⟩, forallC ?_ (forallN)⟩
 refine segF 5 [.v (.slice A_p3_North p3.North.length c_p3_North), .v (.slice A_p3_East p3.East.length c_p3_East), .v (.slice A_p3_South p3.South.length c_p3_South), .v (.slice A_p3_West p3.West.length c_p3_West)] [68, 69, 71, 72, 73] [(68, (.slice A_p0 p0.length c_p0)), (69, (iv p1)), (71, (iv p1)), (72, (iv p2)), (73, (.agg #[(.slice A_p3_North p3.North.length c_p3_North), (.slice A_p3_East p3.East.length c_p3_East), (.slice A_p3_South p3.South.length c_p3_South), (.slice A_p3_West p3.West.length c_p3_West)]))] [] [0, 1, 2, 3] [(5, ⟨g1120, 0, none⟩, (.slice A_p3_North p3.North.length c_p3_North)), (5, ⟨g1120, 1, none⟩, (.slice A_p3_East p3.East.length c_p3_East)), (5, ⟨g1120, 2, none⟩, (.slice A_p3_South p3.South.length c_p3_South)), (5, ⟨g1120, 3, none⟩, (.slice A_p3_West p3.West.length c_p3_West))] (fun fb => by kernel_rfl) rfl trivial rfl ?_
 obtain ⟨t1209, ht1210, hf⟩ := bind_some hf
 refine WL.call (some 70) 67 #[(.slice A_p0 p0.length c_p0), (iv p1)] (fun fb => by kernel_rfl) (rows_All_calls _ p0 p1 A_p0 c_p0 t1209 _ (hS1208.rd 1) ht1210) (fun v w1211 hR1212 => ?_)
 obtain ⟨A1214, c1215, H1216, rfl, hk_⟩ := hR1212
 have hS1213 : St NoS w w1211 [nestO subN_S108 (hlN [(hd1 A_p3_North c_p3_North), (hd1 A_p3_South c_p3_South), (hd1 A_p3_East c_p3_East), (hd1 A_p3_West c_p3_West)]) [(S108.mk p3.North p1), (S108.mk p3.South p1), (S108.mk p3.East p2), (S108.mk p3.West p2)], rowR enc_Tile A_p0 c_p0 p0, rowR encInt A_p3_North c_p3_North p3.North, rowR encInt A_p3_East c_p3_East p3.East, rowR encInt A_p3_South c_p3_South p3.South, rowR encInt A_p3_West c_p3_West p3.West] [rowO 88 encN_Row A1214 c1215 (tag H1216 t1209), poolO [nestO subN_Row H1216 t1209], blk g1120 (.cells #[(.slice A_p3_North p3.North.length c_p3_North), (.slice A_p3_East p3.East.length c_p3_East), (.slice A_p3_South p3.South.length c_p3_South), (.slice A_p3_West p3.West.length c_p3_West)] 57 (0, 0))] := hS1208.call hk_ [] [0] (fun g hg => hg.elim) (by simp) (by decide)
 refine ⟨⟨hS1213.cell 2 rfl 0 rfl, hS1213.cell 2 rfl 1 rfl, hS1213.cell 2 rfl 2 rfl, hS1213.cell 2 rfl 3 rfl, trivial⟩, ?_⟩
 refine seg 7 [] [74] [(74, (.agg #[(.slice A1214 t1209.length c1215), (iv p1), (iv p2), (.slice A_p3_North p3.North.length c_p3_North), (.slice A_p3_East p3.East.length c_p3_East), (.slice A_p3_South p3.South.length c_p3_South), (.slice A_p3_West p3.West.length c_p3_West)]))] [] (fun fb => by kernel_rfl) rfl trivial ?_
 refine WL.new hS1213 75 [] (fun g => (.pointer (some ⟨g, 0, none⟩))) (.cells #[(.slice A1214 t1209.length c1215), (iv p1), (iv p2), (.slice A_p3_North p3.North.length c_p3_North), (.slice A_p3_East p3.East.length c_p3_East), (.slice A_p3_South p3.South.length c_p3_South), (.slice A_p3_West p3.West.length c_p3_West)] 84 (0, 0)) [] (fun fb g => by kernel_rfl) trivial (fun g1217 w1218 hS1219 => ?_)
 refine ⟨trivial, ?_⟩
 refine seg 10 [] [8, 9] [(8, (pt g1217)), (9, (iv 0))] [] (fun fb => by kernel_rfl) rfl trivial ?_
 refine WL.done rfl ?_
 refine WX.next ?_
 refine WC.ret ?_
 injection hf with hf
 subst hf
 exact WX.ret_ [] (.tuple #[(pt g1217), (iv 0)]) [] (fun fb => by kernel_rfl) trivial ⟨_, rfl, g1217, A1214, c1215, H1216, rfl, (hS1219.sub [0, 1, 2] (by decide)).noR⟩
theorem fill_at_calls (p0 : List Int) (p1 : Int) (p2 : Int) (A_p0 : Option Addr) (c_p0 : Nat) (r : Bool) (w : World) (hR0 : RO NoS w (rowR encInt A_p0 c_p0 p0)) (hf : fill_at p0 p1 p2 = some r) :
  CallsR Try.prog 68 #[(.slice A_p0 p0.length c_p0), (iv p1), (iv p2)] w (fun v w' => v = (.bool r) ∧ Keeps NoS w w') := by
 have hS : St NoS w w [rowR encInt A_p0 c_p0 p0] [] := St.init (ro_cons hR0 (ro_nil _ _))
 refine enter 18 Try.func68 rfl Try.ntmps68 rfl ?_
 unfold fill_at at hf
 refine WC.seq ?_
 refine WC.region ?_
 refine seg 1 [] [0, 1, 2] [(0, (.slice A_p0 p0.length c_p0)), (1, (iv p1)), (2, (iv p2))] [] (fun fb => by kernel_rfl) rfl trivial ?_
 refine WL.done rfl ?_
 refine WX.next ?_
 refine WC.seq ?_
 refine WC.region ?_
 refine seg 4 [] [0, 1, 2, 10] [(0, (.slice A_p0 p0.length c_p0)), (1, (iv p1)), (2, (iv p2)), (10, (.bool ((p0.length : Int) == 0)))] [] (fun fb => by kernel_rfl) rfl trivial ?_
 obtain ⟨b1323, hv1324, hf⟩ := bind_some hf
 refine WL.cutV (T := Unit) 11 (fun t => [(17, (.bool b1323))]) (fun t => True) (fun K => ?_) ?_
 ·
  rcases br_some hv1324 with ⟨h1325, hv1324⟩ | ⟨h1325, hv1324⟩
  ·
   refine WL.setB 10 h1325 rfl ?_
   refine seg 11 [] [17] [(17, (.bool true))] [] (fun fb => by kernel_rfl) rfl trivial ?_
   injection hv1324 with hv1324
   subst hv1324
   exact WL.toV K () [17] rfl trivial
  refine WL.setB 10 h1325 rfl ?_
  refine seg 6 [] [2, 10, 11, 12] [(2, (iv p2)), (10, (.bool false)), (11, (.slice A_p0 p0.length c_p0)), (12, (iv p1))] [] (fun fb => by kernel_rfl) rfl trivial ?_
  obtain ⟨h1326, hv1324⟩ := as_some hv1324
  refine seg 11 [.v (iv (rdD p0 p1 0))] [17] [(17, (.bool ((rdD p0 p1 0) == p2)))] [.idx A_p0 p1 p0.length, .cell ((adr A_p0).add ((p1).toNat * 1)) (iv (rdD p0 p1 0))] (fun fb => by kernel_rfl) rfl ⟨rowR.adr (hS.rd 0).1 h1326.1 h1326.2, rowR.cell (hS.rd 0).1 0 h1326.1 h1326.2 0 rfl, trivial⟩ ?_
  injection hv1324 with hv1324
  subst hv1324
  exact WL.toV K () [17] rfl trivial
 rintro _ _
 refine seg 12 [] [6] [(6, (.bool b1323))] [] (fun fb => by kernel_rfl) rfl trivial ?_
 refine WL.done rfl ?_
 refine WX.next ?_
 refine WC.ret ?_
 injection hf with hf
 subst hf
 exact WX.ret_ [] (.bool b1323) [] (fun fb => by kernel_rfl) trivial ⟨_, rfl, rfl, hS.keep⟩
theorem fill_job_allows_calls (k : Nat) (p0 : Job) (p1 : Row) (p2 : Int) (g_p0 : Nat) (A_p0_rows : Option Addr) (c_p0_rows : Nat) (H_p0_rows : Nat → HF) (A_p0_edges_North : Option Addr) (c_p0_edges_North : Nat) (A_p0_edges_East : Option Addr) (c_p0_edges_East : Nat) (A_p0_edges_South : Option Addr) (c_p0_edges_South : Nat) (A_p0_edges_West : Option Addr) (c_p0_edges_West : Nat) (A_p1_Cells : Option Addr) (c_p1_Cells : Nat) (r : Bool) (w : World) (hR0 : RO NoS w (blk g_p0 (.cells #[(.slice A_p0_rows p0.rows.length c_p0_rows), (iv p0.width), (iv p0.height), (.slice A_p0_edges_North p0.edges.North.length c_p0_edges_North), (.slice A_p0_edges_East p0.edges.East.length c_p0_edges_East), (.slice A_p0_edges_South p0.edges.South.length c_p0_edges_South), (.slice A_p0_edges_West p0.edges.West.length c_p0_edges_West)] 84 (0, 0)))) (hR1 : RO NoS w (rowR encN_Row A_p0_rows c_p0_rows (tag H_p0_rows p0.rows))) (hR2 : RO NoS w (nestO subN_Row H_p0_rows p0.rows)) (hR3 : RO NoS w (rowR encInt A_p0_edges_North c_p0_edges_North p0.edges.North)) (hR4 : RO NoS w (rowR encInt A_p0_edges_East c_p0_edges_East p0.edges.East)) (hR5 : RO NoS w (rowR encInt A_p0_edges_South c_p0_edges_South p0.edges.South)) (hR6 : RO NoS w (rowR encInt A_p0_edges_West c_p0_edges_West p0.edges.West)) (hR7 : RO NoS w (rowR encInt A_p1_Cells c_p1_Cells p1.Cells)) (hf : fill_job_allows k p0 p1 p2 = some r) :
  CallsR Try.prog 55 #[(.pointer (some ⟨g_p0, 0, none⟩)), (.agg #[(.slice A_p1_Cells p1.Cells.length c_p1_Cells), (iv p1.South.e0), (iv p1.South.e1), (iv p1.South.e2), (iv p1.South.e3), (iv p1.South.e4), (iv p1.South.e5), (iv p1.South.e6), (iv p1.South.e7), (iv p1.North.e0), (iv p1.North.e1), (iv p1.North.e2), (iv p1.North.e3), (iv p1.North.e4), (iv p1.North.e5), (iv p1.North.e6), (iv p1.North.e7), (iv p1.West), (iv p1.East)]), (iv p2)] w (fun v w' => v = (.bool r) ∧ Keeps NoS w w') := by
 have hS : St NoS w w [blk g_p0 (.cells #[(.slice A_p0_rows p0.rows.length c_p0_rows), (iv p0.width), (iv p0.height), (.slice A_p0_edges_North p0.edges.North.length c_p0_edges_North), (.slice A_p0_edges_East p0.edges.East.length c_p0_edges_East), (.slice A_p0_edges_South p0.edges.South.length c_p0_edges_South), (.slice A_p0_edges_West p0.edges.West.length c_p0_edges_West)] 84 (0, 0)), rowR encN_Row A_p0_rows c_p0_rows (tag H_p0_rows p0.rows), nestO subN_Row H_p0_rows p0.rows, rowR encInt A_p0_edges_North c_p0_edges_North p0.edges.North, rowR encInt A_p0_edges_East c_p0_edges_East p0.edges.East, rowR encInt A_p0_edges_South c_p0_edges_South p0.edges.South, rowR encInt A_p0_edges_West c_p0_edges_West p0.edges.West, rowR encInt A_p1_Cells c_p1_Cells p1.Cells] [] := St.init (ro_cons hR0 (ro_cons hR1 (ro_cons hR2 (ro_cons hR3 (ro_cons hR4 (ro_cons hR5 (ro_cons hR6 (ro_cons hR7 (ro_nil _ _)))))))))
 refine enter 77 Try.func55 rfl Try.ntmps55 rfl ?_
 unfold fill_job_allows at hf
 refine WC.seq ?_
 refine WC.region ?_
 refine WL.new hS 4 [] (fun g => (.pointer (some ⟨g, 0, none⟩))) (.cells #[(.slice A_p1_Cells p1.Cells.length c_p1_Cells), (iv p1.South.e0), (iv p1.South.e1), (iv p1.South.e2), (iv p1.South.e3), (iv p1.South.e4), (iv p1.South.e5), (iv p1.South.e6), (iv p1.South.e7), (iv p1.North.e0), (iv p1.North.e1), (iv p1.North.e2), (iv p1.North.e3), (iv p1.North.e4), (iv p1.North.e5), (iv p1.North.e6), (iv p1.North.e7), (iv p1.West), (iv p1.East)] 88 (0, 0)) [] (fun fb g => by kernel_rfl) trivial (fun g1318 w1319 hS1320 => ?_)
 refine ⟨trivial, ?_⟩
 refine seg 2 [] [0, 2, 4] [(0, (.pointer (some ⟨g_p0, 0, none⟩))), (2, (iv p2)), (4, (pt g1318))] [] (fun fb => by kernel_rfl) rfl trivial ?_
 refine WL.done rfl ?_
 refine WX.next ?_
 refine WC.seq ?_
 refine WC.seq ?_
 refine WC.regionD ([(4, ⟨g_p0, 6, none⟩, (.slice A_p0_edges_West p0.edges.West.length c_p0_edges_West)), (7, ⟨g1318, 17, none⟩, (iv p1.West)), (18, ⟨g1318, 18, none⟩, (iv p1.East))], [0, 1, 2, 3, 4, 5, 6, 7, 9, 10, 11, 12, 13, 14, 16, 17, 18, 20, 21], [[], [0], [0, 1], [0, 1, 2], [0, 1, 2, 3], [], [], [6], [0, 1, 2, 3, 4, 5, 6, 7], [0, 1, 2, 3, 4, 5, 6, 7, 8], [0, 1, 2, 3, 4, 5, 6, 7, 8, 9], [0, 1, 2, 3, 4, 5, 6, 7, 8, 9, 10], [0, 1, 2, 3, 4, 5, 6, 7, 8, 9, 10, 11], [0, 1, 2, 3, 4, 5, 6, 7, 8, 9, 10, 11, 12], [0, 1, 2, 3, 4, 5, 6, 7, 8, 9, 10, 11, 12, 13], [0, 1, 2, 3, 4, 5, 6, 7, 8, 9, 10, 11, 12, 13, 14], [0, 1, 2, 3, 4, 5, 6, 7, 8, 9, 10], [0, 1, 2, 3, 4, 5, 6, 7, 8, 9, 10], [0, 1, 2, 3, 4, 5, 6, 7, 8, 9, 10, 17], [0, 1, 2, 3, 4, 5, 6, 7, 8, 9, 10, 11, 12, 13, 14, 15, 16, 17, 18], [0, 1, 2, 3, 4, 5, 6, 7, 8, 9, 10, 11, 12, 13, 14, 15, 16, 17, 18, 19], [0, 1, 2, 3, 4, 5, 6, 7, 8, 9, 10, 11, 12, 13, 14, 15, 16, 17, 18, 19, 20]]) [[0, 1, 2, 3, 4, 5, 6, 7, 8, 9, 10, 11, 12, 13, 14, 16, 17, 18, 15, 19, 20, 21]] (by kernel_rfl) (by kernel_rfl) (NoPanic.seq (NoPanic.seq (NoPanic.body))) ?_
 have hS1352 := hS1320.drew
 revert hS1352
 generalize World.drew w1319 = w1351
 intro hS1352
 refine ⟨⟨blk_cell (hS1352.rd 0).1 6 rfl, hS1352.cell 0 rfl 17 rfl, hS1352.cell 0 rfl 18 rfl, trivial⟩, forallC ?_ (forallN)⟩
 refine segF 8 [.v (.slice A_p0_edges_West p0.edges.West.length c_p0_edges_West), .v (iv p1.West)] [0, 2, 4, 12, 13, 15] [(0, (.pointer (some ⟨g_p0, 0, none⟩))), (2, (iv p2)), (4, (pt g1318)), (12, (.slice A_p0_edges_West p0.edges.West.length c_p0_edges_West)), (13, (iv p2)), (15, (iv p1.West))] [] [0, 1] [(4, ⟨g_p0, 6, none⟩, (.slice A_p0_edges_West p0.edges.West.length c_p0_edges_West)), (7, ⟨g1318, 17, none⟩, (iv p1.West))] (fun fb => by kernel_rfl) rfl trivial rfl ?_
 obtain ⟨t1353, ht1354, hf⟩ := bind_some hf
 refine WL.call (some 16) 68 #[(.slice A_p0_edges_West p0.edges.West.length c_p0_edges_West), (iv p2), (iv p1.West)] (fun fb => by kernel_rfl) (fill_at_calls p0.edges.West p2 p1.West A_p0_edges_West c_p0_edges_West t1353 _ (hS1352.rd 6) ht1354) (fun v w1355 hR1356 => ?_)
 obtain ⟨rfl, hk_⟩ := hR1356
 have hS1357 := hS1352.keepN hk_
 refine ⟨⟨hS1357.cell 0 rfl 18 rfl, trivial⟩, ?_⟩
 refine seg 11 [] [0, 2, 4, 18] [(0, (.pointer (some ⟨g_p0, 0, none⟩))), (2, (iv p2)), (4, (pt g1318)), (18, (.bool (!t1353)))] [] (fun fb => by kernel_rfl) rfl trivial ?_
 obtain ⟨x1364, hx1365, hf⟩ := bind_some hf
 refine WL.cutW (T := Bool) 22 (fun t => [(0, (.pointer (some ⟨g_p0, 0, none⟩))), (2, (iv p2)), (4, (pt g1318)), (29, (.bool t))]) (fun t w1 => (St NoS w w1 [blk g_p0 (.cells #[(.slice A_p0_rows p0.rows.length c_p0_rows), (iv p0.width), (iv p0.height), (.slice A_p0_edges_North p0.edges.North.length c_p0_edges_North), (.slice A_p0_edges_East p0.edges.East.length c_p0_edges_East), (.slice A_p0_edges_South p0.edges.South.length c_p0_edges_South), (.slice A_p0_edges_West p0.edges.West.length c_p0_edges_West)] 84 (0, 0)), rowR encN_Row A_p0_rows c_p0_rows (tag H_p0_rows p0.rows), nestO subN_Row H_p0_rows p0.rows, rowR encInt A_p0_edges_North c_p0_edges_North p0.edges.North, rowR encInt A_p0_edges_East c_p0_edges_East p0.edges.East, rowR encInt A_p0_edges_South c_p0_edges_South p0.edges.South, rowR encInt A_p0_edges_West c_p0_edges_West p0.edges.West, rowR encInt A_p1_Cells c_p1_Cells p1.Cells] [blk g1318 (.cells #[(.slice A_p1_Cells p1.Cells.length c_p1_Cells), (iv p1.South.e0), (iv p1.South.e1), (iv p1.South.e2), (iv p1.South.e3), (iv p1.South.e4), (iv p1.South.e5), (iv p1.South.e6), (iv p1.South.e7), (iv p1.North.e0), (iv p1.North.e1), (iv p1.North.e2), (iv p1.North.e3), (iv p1.North.e4), (iv p1.North.e5), (iv p1.North.e6), (iv p1.North.e7), (iv p1.West), (iv p1.East)] 88 (0, 0))] ∧ x1364 = t) ∧ CellsOK [] w1) (fun K => ?_) ?_
 ·
  rcases br_some hx1365 with ⟨h1366, hx1365⟩ | ⟨h1366, hx1365⟩
  ·
   refine WL.setB 18 h1366 rfl ?_
   refine seg 22 [] [0, 2, 4, 29] [(0, (.pointer (some ⟨g_p0, 0, none⟩))), (2, (iv p2)), (4, (pt g1318)), (29, (.bool true))] [] (fun fb => by kernel_rfl) rfl trivial ?_
   injection hx1365 with hx1365
   exact WL.to K true [0, 2, 4, 29] rfl ⟨⟨(hS1357.subR [0, 1, 2, 3, 4, 5, 6, 7]).sub [0] (by decide), hx1365.symm⟩, trivial⟩
  refine WL.setB 18 h1366 rfl ?_
  refine segF 19 [.v (iv p1.East), .v (.slice A_p0_edges_East p0.edges.East.length c_p0_edges_East)] [0, 2, 4, 18, 23, 24, 26] [(0, (.pointer (some ⟨g_p0, 0, none⟩))), (2, (iv p2)), (4, (pt g1318)), (18, (.bool false)), (23, (.slice A_p0_edges_East p0.edges.East.length c_p0_edges_East)), (24, (iv p2)), (26, (iv p1.East))] [.cell ⟨g_p0, 4, none⟩ (.slice A_p0_edges_East p0.edges.East.length c_p0_edges_East)] [2] [(18, ⟨g1318, 18, none⟩, (iv p1.East))] (fun fb => by kernel_rfl) rfl ⟨blk_cell (hS1357.rd 0).1 4 rfl, trivial⟩ rfl ?_
  obtain ⟨t1367, ht1368, hx1365⟩ := bind_some hx1365
  refine WL.call (some 27) 68 #[(.slice A_p0_edges_East p0.edges.East.length c_p0_edges_East), (iv p2), (iv p1.East)] (fun fb => by kernel_rfl) (fill_at_calls p0.edges.East p2 p1.East A_p0_edges_East c_p0_edges_East t1367 _ (hS1357.rd 4) ht1368) (fun v w1369 hR1370 => ?_)
  obtain ⟨rfl, hk_⟩ := hR1370
  have hS1371 := hS1357.keepN hk_
  refine ⟨trivial, ?_⟩
  refine seg 22 [] [0, 2, 4, 29] [(0, (.pointer (some ⟨g_p0, 0, none⟩))), (2, (iv p2)), (4, (pt g1318)), (29, (.bool (!t1367)))] [] (fun fb => by kernel_rfl) rfl trivial ?_
  injection hx1365 with hx1365
  exact WL.to K (!t1367) [0, 2, 4, 29] rfl ⟨⟨(hS1371.subR [0, 1, 2, 3, 4, 5, 6, 7]).sub [0] (by decide), hx1365.symm⟩, trivial⟩
 rintro y1372 w1374 ⟨⟨hS1375, hq1373⟩, hF1376⟩
 subst hq1373
 refine WL.done rfl ?_
 refine WX.next ?_
 rcases br_some hf with ⟨h1377, hf⟩ | ⟨h1377, hf⟩
 ·refine WC.condT2 (fun fb => by kernel_rfl) h1377 ?_
  refine WC.seq ?_
  refine WC.region ?_
  refine seg 1 [] [6] [(6, (.bool false))] [] (fun fb => by kernel_rfl) rfl trivial ?_
  refine WL.done rfl ?_
  refine WX.next ?_
  refine WC.ret ?_
  injection hf with hf
  subst hf
  exact WX.thenR (WX.ret_ [] (.bool false) [] (fun fb => by kernel_rfl) trivial ⟨_, rfl, rfl, hS1375.keep⟩)
 refine WC.condF2 (fun fb => by kernel_rfl) h1377 ?_
 refine WC.skip ?_
 refine WX.next ?_
 refine WC.seq ?_
 refine WC.seq ?_
 refine WC.region ?_
 refine seg 5 [.v (iv p0.width)] [0, 2, 4, 33, 34] [(0, (.pointer (some ⟨g_p0, 0, none⟩))), (2, (iv p2)), (4, (pt g1318)), (33, (iv p0.width)), (34, (iv 0))] [.cell ⟨g_p0, 1, none⟩ (iv p0.width)] (fun fb => by kernel_rfl) rfl ⟨blk_cell (hS1375.rd 0).1 1 rfl, trivial⟩ ?_
 refine WL.done rfl ?_
 refine WX.next ?_
 obtain ⟨x1914, hx1915, hf⟩ := bind_some hf
 refine WC.cutN (T := Unit) (fun t => []) (fun t w1 => St NoS w w1 [blk g_p0 (.cells #[(.slice A_p0_rows p0.rows.length c_p0_rows), (iv p0.width), (iv p0.height), (.slice A_p0_edges_North p0.edges.North.length c_p0_edges_North), (.slice A_p0_edges_East p0.edges.East.length c_p0_edges_East), (.slice A_p0_edges_South p0.edges.South.length c_p0_edges_South), (.slice A_p0_edges_West p0.edges.West.length c_p0_edges_West)] 84 (0, 0)), rowR encN_Row A_p0_rows c_p0_rows (tag H_p0_rows p0.rows), nestO subN_Row H_p0_rows p0.rows, rowR encInt A_p0_edges_North c_p0_edges_North p0.edges.North, rowR encInt A_p0_edges_East c_p0_edges_East p0.edges.East, rowR encInt A_p0_edges_South c_p0_edges_South p0.edges.South, rowR encInt A_p0_edges_West c_p0_edges_West p0.edges.West, rowR encInt A_p1_Cells c_p1_Cells p1.Cells] [] ∧ x1914 = .inr t) (fun Kx1914 => ?_) ?_
 ·
  refine WC.block ?_
  refine WC.loop (T := Int) (fun t => [(0, (.pointer (some ⟨g_p0, 0, none⟩))), (2, (iv p2)), (4, (pt g1318)), (33, (iv p0.width)), (34, (iv t))]) (fun n t w1 => St NoS w w1 [blk g_p0 (.cells #[(.slice A_p0_rows p0.rows.length c_p0_rows), (iv p0.width), (iv p0.height), (.slice A_p0_edges_North p0.edges.North.length c_p0_edges_North), (.slice A_p0_edges_East p0.edges.East.length c_p0_edges_East), (.slice A_p0_edges_South p0.edges.South.length c_p0_edges_South), (.slice A_p0_edges_West p0.edges.West.length c_p0_edges_West)] 84 (0, 0)), rowR encN_Row A_p0_rows c_p0_rows (tag H_p0_rows p0.rows), nestO subN_Row H_p0_rows p0.rows, rowR encInt A_p0_edges_North c_p0_edges_North p0.edges.North, rowR encInt A_p0_edges_East c_p0_edges_East p0.edges.East, rowR encInt A_p0_edges_South c_p0_edges_South p0.edges.South, rowR encInt A_p0_edges_West c_p0_edges_West p0.edges.West, rowR encInt A_p1_Cells c_p1_Cells p1.Cells] [blk g1318 (.cells #[(.slice A_p1_Cells p1.Cells.length c_p1_Cells), (iv p1.South.e0), (iv p1.South.e1), (iv p1.South.e2), (iv p1.South.e3), (iv p1.South.e4), (iv p1.South.e5), (iv p1.South.e6), (iv p1.South.e7), (iv p1.North.e0), (iv p1.North.e1), (iv p1.North.e2), (iv p1.North.e3), (iv p1.North.e4), (iv p1.North.e5), (iv p1.North.e6), (iv p1.North.e7), (iv p1.West), (iv p1.East)] 88 (0, 0))] ∧ fill_job_allows.l0 n t p0 p1 p2 = some x1914) k 0 [0, 2, 4, 33, 34] rfl ⟨(hS1375.subR [0, 1, 2, 3, 4, 5, 6, 7]).sub [0] (by decide), hx1915⟩ ?_
  rintro k1916 x1913 w1917 ⟨hS1918, hl1919⟩
  cases k1916 with
  | zero => rw [fill_job_allows.l0] at hl1919; cases hl1919
  | succ k1916 =>
   rw [fill_job_allows.l0] at hl1919
   refine WC.seq ?_
   refine WC.region ?_
   refine seg 1 [] [0, 2, 4, 33, 34, 35] [(0, (.pointer (some ⟨g_p0, 0, none⟩))), (2, (iv p2)), (4, (pt g1318)), (33, (iv p0.width)), (34, (iv x1913)), (35, (.bool (decide (x1913 < p0.width))))] [] (fun fb => by kernel_rfl) rfl trivial ?_
   refine WL.done rfl ?_
   refine WX.next ?_
   refine WC.seq ?_
   rcases br_some hl1919 with ⟨h1920, hl1919⟩ | ⟨h1920, hl1919⟩
   ·refine WC.condT2 (fun fb => by kernel_rfl) h1920 ?_
    refine WC.skip ?_
    refine WX.next ?_
    refine WC.seq ?_
    refine WC.block ?_
    refine WC.seq ?_
    refine WC.region ?_
    refine seg 2 [] [0, 2, 4, 7, 33, 34] [(0, (.pointer (some ⟨g_p0, 0, none⟩))), (2, (iv p2)), (4, (pt g1318)), (7, (iv x1913)), (33, (iv p0.width)), (34, (iv x1913))] [] (fun fb => by kernel_rfl) rfl trivial ?_
    refine WL.done rfl ?_
    refine WX.next ?_
    refine WC.seq ?_
    obtain ⟨x2056, hx2057, hl1919⟩ := bind_some hl1919
    refine WC.cutN (T := Bool) (fun t => [(0, (.pointer (some ⟨g_p0, 0, none⟩))), (2, (iv p2)), (4, (pt g1318)), (33, (iv p0.width)), (34, (iv x1913)), (75, (.bool t))]) (fun t w1 => St NoS w w1 [blk g_p0 (.cells #[(.slice A_p0_rows p0.rows.length c_p0_rows), (iv p0.width), (iv p0.height), (.slice A_p0_edges_North p0.edges.North.length c_p0_edges_North), (.slice A_p0_edges_East p0.edges.East.length c_p0_edges_East), (.slice A_p0_edges_South p0.edges.South.length c_p0_edges_South), (.slice A_p0_edges_West p0.edges.West.length c_p0_edges_West)] 84 (0, 0)), rowR encN_Row A_p0_rows c_p0_rows (tag H_p0_rows p0.rows), nestO subN_Row H_p0_rows p0.rows, rowR encInt A_p0_edges_North c_p0_edges_North p0.edges.North, rowR encInt A_p0_edges_East c_p0_edges_East p0.edges.East, rowR encInt A_p0_edges_South c_p0_edges_South p0.edges.South, rowR encInt A_p0_edges_West c_p0_edges_West p0.edges.West, rowR encInt A_p1_Cells c_p1_Cells p1.Cells] [blk g1318 (.cells #[(.slice A_p1_Cells p1.Cells.length c_p1_Cells), (iv p1.South.e0), (iv p1.South.e1), (iv p1.South.e2), (iv p1.South.e3), (iv p1.South.e4), (iv p1.South.e5), (iv p1.South.e6), (iv p1.South.e7), (iv p1.North.e0), (iv p1.North.e1), (iv p1.North.e2), (iv p1.North.e3), (iv p1.North.e4), (iv p1.North.e5), (iv p1.North.e6), (iv p1.North.e7), (iv p1.West), (iv p1.East)] 88 (0, 0))] ∧ x2056 = t) (fun Kx2056 => ?_) ?_
    ·
     rcases br_some hx2057 with ⟨h2058, hx2057⟩ | ⟨h2058, hx2057⟩
     ·
      rcases br_some hx2057 with ⟨h2065, hx2057⟩ | ⟨h2065, hx2057⟩
      ·
       obtain ⟨h2094, hx2057⟩ := as_some hx2057
       refine WC.regionD ([(7, ⟨g_p0, 5, none⟩, (.slice A_p0_edges_South p0.edges.South.length c_p0_edges_South)), (12, (flatA ⟨g1318, 1, none⟩ (x1913.toNat * 1)), (iv (A8_Int.get p1.South x1913)))], [0, 1, 2, 3, 4, 5, 6, 7, 8, 9, 10, 11, 12, 14, 15, 16, 17, 18, 19, 20, 22, 23, 24, 25, 26, 27, 28, 30, 31, 32, 33, 36, 37, 38], [[], [0], [0, 1], [0, 1, 2], [0, 1, 2, 3], [0, 1, 2, 3, 4], [0, 1, 2, 3, 4, 5], [0, 1, 2, 3, 4, 5, 6], [0, 1, 2], [0, 1, 2], [0, 1, 2], [0, 1, 2, 9, 10], [0, 1, 2, 9, 10, 11], [0, 1, 2, 3, 4, 5, 6, 7, 8, 9, 10, 11, 12], [0, 1, 2, 3, 4, 5, 6, 7, 8, 9, 10, 11, 12, 13], [0, 1, 2, 3, 4, 5, 6, 7, 8, 9, 10, 11, 12, 13, 14], [0, 1, 2, 3, 4, 5, 6, 7, 8, 9, 10, 11, 12, 13, 14, 15], [0, 1, 2, 3, 4, 5, 6, 7, 8, 9, 10, 11, 12, 13, 14, 15, 16], [0, 1, 2, 3, 4, 5, 6, 7, 8, 9, 10, 11, 12, 13, 14, 15, 16], [0, 1, 2, 3, 4, 5, 6, 7, 8, 9, 10, 11, 12, 13, 14, 15, 16, 18], [0, 1, 2, 3, 4, 5, 6, 7, 8, 9, 10, 11, 12, 13, 14, 15, 16, 18, 19], [0, 1, 2, 3, 4, 5, 6, 7, 8, 9, 10, 11, 12, 13, 14, 15, 16, 18, 19, 20], [0, 1, 2, 3, 4, 5, 6, 7, 8, 9, 10, 11, 12, 13, 14, 15, 16, 18, 19, 20, 21], [0, 1, 2, 3, 4, 5, 6, 7, 8, 9, 10, 11, 12, 13, 14, 15, 16, 17, 18, 19, 20, 21, 22], [0, 1, 2, 3, 4, 5, 6, 7, 8, 9, 10, 11, 12, 13, 14, 15, 16, 17, 18, 19, 20, 21, 22, 23], [0, 1, 2, 3, 4, 5, 6, 7, 8, 9, 10, 11, 12, 13, 14, 15, 16, 17, 18, 19, 20, 21, 22, 23, 24], [0, 1, 2, 3, 4, 5, 6, 7, 8, 9, 10, 11, 12, 13, 14, 15, 16, 17, 18, 19, 20, 21, 22, 23, 24, 25], [0, 1, 2, 3, 4, 5, 6, 7, 8, 9, 10, 11, 12, 13, 14, 15, 16, 17, 18, 19, 20, 21, 22, 23, 24, 25, 26], [0, 1, 2, 3, 4, 5, 6, 7, 8, 9, 10, 11, 12, 13, 14, 15, 16, 17, 18, 19, 20, 21, 22, 23, 24, 25, 26, 27], [0, 1, 2, 3, 4, 5, 6, 7, 8, 9, 10, 11, 12, 13, 14, 15, 16, 17, 18, 19, 20, 21, 22, 23, 24, 25, 26, 27, 28], [0, 1, 2, 3, 4, 5, 6, 7, 8, 9, 10, 11, 12, 13, 14, 15, 16, 17, 18, 19, 20, 21, 22, 23, 24], [0, 1, 2, 3, 4, 5, 6, 7, 8, 9, 10, 11, 12, 13, 14, 15, 16, 17, 18, 19, 20, 21, 22, 23, 24], [0, 1, 2, 3, 4, 5, 6, 7, 8, 9, 10, 11, 12, 13, 14, 15, 16, 17, 18, 19, 20, 21, 22, 23, 24], [0, 1, 2, 3, 4, 5, 6, 7, 8, 9, 10, 11, 12, 13, 14, 15, 16, 17, 18, 19, 20, 21, 22, 23, 24, 31, 32], [0, 1, 2, 3, 4, 5, 6, 7, 8, 9, 10, 11, 12, 13, 14, 15, 16, 17, 18, 19, 20, 21, 22, 23, 24, 31, 32, 33], [0, 1, 2, 3, 4, 5, 6, 7, 8, 9, 10, 11, 12, 13, 14, 15, 16, 17, 18, 19, 20, 21, 22, 23, 24, 25, 26, 27, 28, 29, 30, 31, 32, 33, 34], [0, 1, 2, 3, 4, 5, 6, 7, 8, 9, 10, 11, 12, 13, 14, 15, 16, 17, 18, 19, 20, 21, 22, 23, 24, 25, 26, 27, 28, 29, 30, 31, 32, 33, 34, 35], [0, 1, 2, 3, 4, 5, 6, 7, 8, 9, 10, 11, 12, 13, 14, 15, 16, 17, 18, 19, 20, 21, 22, 23, 24, 25, 26, 27, 28, 29, 30, 31, 32, 33, 34, 35, 36], [0, 1, 2, 3, 4, 5, 6, 7, 8, 9, 10, 11, 12, 13, 14, 15, 16, 17, 18, 19, 20, 21, 22, 23, 24, 25, 26, 27, 28, 29, 30, 31, 32, 33, 34, 35, 36, 37]]) [[0, 1, 2, 3, 4, 5, 6, 7, 8, 9, 10, 11, 12, 13, 14, 15, 16, 17, 18, 19, 20, 21, 22, 23, 24, 25, 26, 27, 28, 30, 31, 32, 33, 29, 34, 35, 36, 37, 38], [0, 1, 2, 3, 4, 5, 6, 7, 8, 9, 10, 11, 12, 13, 14, 15, 16, 17, 18, 19, 20, 21, 22, 23, 24, 25, 26, 27, 28, 30, 31, 32, 33, 34, 29, 35, 36, 37, 38]] (by kernel_rfl) (by kernel_rfl) (NoPanic.seq (NoPanic.block (NoPanic.seq (NoPanic.seq (NoPanic.block (NoPanic.seq (NoPanic.body))))))) ?_
       have hS2092 := hS1918.drew
       revert hS2092
       generalize World.drew w1917 = w2091
       intro hS2092
       refine ⟨⟨blk_cell (hS2092.rd 0).1 5 rfl, hS2092.cell 0 rfl _ (cases8 (Q := fun z_ => (#[(.slice A_p1_Cells p1.Cells.length c_p1_Cells), (iv p1.South.e0), (iv p1.South.e1), (iv p1.South.e2), (iv p1.South.e3), (iv p1.South.e4), (iv p1.South.e5), (iv p1.South.e6), (iv p1.South.e7), (iv p1.North.e0), (iv p1.North.e1), (iv p1.North.e2), (iv p1.North.e3), (iv p1.North.e4), (iv p1.North.e5), (iv p1.North.e6), (iv p1.North.e7), (iv p1.West), (iv p1.East)] : Array Value)[1 + z_.toNat * 1]? = some (iv (A8_Int.get p1.South z_))) h2094 (by kernel_rfl) (by kernel_rfl) (by kernel_rfl) (by kernel_rfl) (by kernel_rfl) (by kernel_rfl) (by kernel_rfl) (by kernel_rfl)), trivial⟩, forallC ?_ (forallC ?_ (forallN))⟩
       ·
        refine seg 3 [] [0, 2, 4, 7, 33, 34, 39] [(0, (.pointer (some ⟨g_p0, 0, none⟩))), (2, (iv p2)), (4, (pt g1318)), (7, (iv x1913)), (33, (iv p0.width)), (34, (iv x1913)), (39, (.bool (p2 == 0)))] [] (fun fb => by kernel_rfl) rfl trivial ?_
        refine WL.setB 39 h2058 rfl ?_
        refine segF 13 [.v (.slice A_p0_edges_South p0.edges.South.length c_p0_edges_South), .v (iv (A8_Int.get p1.South x1913))] [0, 2, 4, 7, 33, 34, 39, 44, 45, 49] [(0, (.pointer (some ⟨g_p0, 0, none⟩))), (2, (iv p2)), (4, (pt g1318)), (7, (iv x1913)), (33, (iv p0.width)), (34, (iv x1913)), (39, (.bool true)), (44, (.slice A_p0_edges_South p0.edges.South.length c_p0_edges_South)), (45, (iv x1913)), (49, (iv (A8_Int.get p1.South x1913)))] [.idx (some ⟨0, 0, none⟩) x1913 8] [0, 1] [(7, ⟨g_p0, 5, none⟩, (.slice A_p0_edges_South p0.edges.South.length c_p0_edges_South)), (12, (flatA ⟨g1318, 1, none⟩ (x1913.toNat * 1)), (iv (A8_Int.get p1.South x1913)))] (fun fb => by kernel_rfl) rfl ⟨⟨h2094.1, h2094.2, rfl⟩, trivial⟩ rfl ?_
        obtain ⟨t2095, ht2096, hx2057⟩ := bind_some hx2057
        refine WL.call (some 50) 68 #[(.slice A_p0_edges_South p0.edges.South.length c_p0_edges_South), (iv x1913), (iv (A8_Int.get p1.South x1913))] (fun fb => by kernel_rfl) (fill_at_calls p0.edges.South x1913 (A8_Int.get p1.South x1913) A_p0_edges_South c_p0_edges_South t2095 _ (hS2092.rd 5) ht2096) (fun v w2097 hR2098 => ?_)
        obtain ⟨rfl, hk_⟩ := hR2098
        have hS2099 := hS2092.keepN hk_
        refine ⟨trivial, ?_⟩
        refine seg 17 [] [0, 2, 4, 7, 33, 34, 53] [(0, (.pointer (some ⟨g_p0, 0, none⟩))), (2, (iv p2)), (4, (pt g1318)), (7, (iv x1913)), (33, (iv p0.width)), (34, (iv x1913)), (53, (.bool (!t2095)))] [] (fun fb => by kernel_rfl) rfl trivial ?_
        obtain ⟨x2106, hx2107, hx2057⟩ := bind_some hx2057
        refine WL.cutW (T := Bool) 39 (fun t => [(0, (.pointer (some ⟨g_p0, 0, none⟩))), (2, (iv p2)), (4, (pt g1318)), (33, (iv p0.width)), (34, (iv x1913)), (75, (.bool t))]) (fun t w1 => (St NoS w w1 [blk g_p0 (.cells #[(.slice A_p0_rows p0.rows.length c_p0_rows), (iv p0.width), (iv p0.height), (.slice A_p0_edges_North p0.edges.North.length c_p0_edges_North), (.slice A_p0_edges_East p0.edges.East.length c_p0_edges_East), (.slice A_p0_edges_South p0.edges.South.length c_p0_edges_South), (.slice A_p0_edges_West p0.edges.West.length c_p0_edges_West)] 84 (0, 0)), rowR encN_Row A_p0_rows c_p0_rows (tag H_p0_rows p0.rows), nestO subN_Row H_p0_rows p0.rows, rowR encInt A_p0_edges_North c_p0_edges_North p0.edges.North, rowR encInt A_p0_edges_East c_p0_edges_East p0.edges.East, rowR encInt A_p0_edges_South c_p0_edges_South p0.edges.South, rowR encInt A_p0_edges_West c_p0_edges_West p0.edges.West, rowR encInt A_p1_Cells c_p1_Cells p1.Cells] [blk g1318 (.cells #[(.slice A_p1_Cells p1.Cells.length c_p1_Cells), (iv p1.South.e0), (iv p1.South.e1), (iv p1.South.e2), (iv p1.South.e3), (iv p1.South.e4), (iv p1.South.e5), (iv p1.South.e6), (iv p1.South.e7), (iv p1.North.e0), (iv p1.North.e1), (iv p1.North.e2), (iv p1.North.e3), (iv p1.North.e4), (iv p1.North.e5), (iv p1.North.e6), (iv p1.North.e7), (iv p1.West), (iv p1.East)] 88 (0, 0))] ∧ x2106 = t) ∧ CellsOK [] w1) (fun K => ?_) ?_
        ·
         rcases br_some hx2107 with ⟨h2108, hx2107⟩ | ⟨h2108, hx2107⟩
         ·
          refine WL.setB 53 h2108 rfl ?_
          refine seg 39 [] [0, 2, 4, 33, 34, 75] [(0, (.pointer (some ⟨g_p0, 0, none⟩))), (2, (iv p2)), (4, (pt g1318)), (33, (iv p0.width)), (34, (iv x1913)), (75, (.bool true))] [] (fun fb => by kernel_rfl) rfl trivial ?_
          injection hx2107 with hx2107
          exact WL.to K true [0, 2, 4, 33, 34, 75] rfl ⟨⟨(hS2099.subR [0, 1, 2, 3, 4, 5, 6, 7]).sub [0] (by decide), hx2107.symm⟩, trivial⟩
         refine WL.setB 53 h2108 rfl ?_
         refine seg 25 [.v (iv p0.height)] [0, 2, 4, 7, 33, 34, 53, 61] [(0, (.pointer (some ⟨g_p0, 0, none⟩))), (2, (iv p2)), (4, (pt g1318)), (7, (iv x1913)), (33, (iv p0.width)), (34, (iv x1913)), (53, (.bool false)), (61, (.bool (p2 == (w64 (p0.height - 1)))))] [.cell ⟨g_p0, 2, none⟩ (iv p0.height)] (fun fb => by kernel_rfl) rfl ⟨blk_cell (hS2099.rd 0).1 2 rfl, trivial⟩ ?_
         refine WL.setB 61 h2065 rfl ?_
         refine seg 35 [.v (.slice A_p0_edges_North p0.edges.North.length c_p0_edges_North), .v (iv (A8_Int.get p1.North x1913))] [0, 2, 4, 33, 34, 53, 61, 66, 67, 71] [(0, (.pointer (some ⟨g_p0, 0, none⟩))), (2, (iv p2)), (4, (pt g1318)), (33, (iv p0.width)), (34, (iv x1913)), (53, (.bool false)), (61, (.bool true)), (66, (.slice A_p0_edges_North p0.edges.North.length c_p0_edges_North)), (67, (iv x1913)), (71, (iv (A8_Int.get p1.North x1913)))] [.idx (some ⟨0, 0, none⟩) x1913 8, .cell ⟨g_p0, 3, none⟩ (.slice A_p0_edges_North p0.edges.North.length c_p0_edges_North), .cell (flatA ⟨g1318, 9, none⟩ (x1913.toNat * 1)) (iv (A8_Int.get p1.North x1913))] (fun fb => by kernel_rfl) rfl ⟨⟨h2094.1, h2094.2, rfl⟩, blk_cell (hS2099.rd 0).1 3 rfl, hS2099.cell 0 rfl _ (cases8 (Q := fun z_ => (#[(.slice A_p1_Cells p1.Cells.length c_p1_Cells), (iv p1.South.e0), (iv p1.South.e1), (iv p1.South.e2), (iv p1.South.e3), (iv p1.South.e4), (iv p1.South.e5), (iv p1.South.e6), (iv p1.South.e7), (iv p1.North.e0), (iv p1.North.e1), (iv p1.North.e2), (iv p1.North.e3), (iv p1.North.e4), (iv p1.North.e5), (iv p1.North.e6), (iv p1.North.e7), (iv p1.West), (iv p1.East)] : Array Value)[9 + z_.toNat * 1]? = some (iv (A8_Int.get p1.North z_))) h2094 (by kernel_rfl) (by kernel_rfl) (by kernel_rfl) (by kernel_rfl) (by kernel_rfl) (by kernel_rfl) (by kernel_rfl) (by kernel_rfl)), trivial⟩ ?_
         obtain ⟨t2109, ht2110, hx2107⟩ := bind_some hx2107
         refine WL.call (some 72) 68 #[(.slice A_p0_edges_North p0.edges.North.length c_p0_edges_North), (iv x1913), (iv (A8_Int.get p1.North x1913))] (fun fb => by kernel_rfl) (fill_at_calls p0.edges.North x1913 (A8_Int.get p1.North x1913) A_p0_edges_North c_p0_edges_North t2109 _ (hS2099.rd 3) ht2110) (fun v w2111 hR2112 => ?_)
         obtain ⟨rfl, hk_⟩ := hR2112
         have hS2113 := hS2099.keepN hk_
         refine ⟨trivial, ?_⟩
         refine seg 39 [] [0, 2, 4, 33, 34, 75] [(0, (.pointer (some ⟨g_p0, 0, none⟩))), (2, (iv p2)), (4, (pt g1318)), (33, (iv p0.width)), (34, (iv x1913)), (75, (.bool (!t2109)))] [] (fun fb => by kernel_rfl) rfl trivial ?_
         injection hx2107 with hx2107
         exact WL.to K (!t2109) [0, 2, 4, 33, 34, 75] rfl ⟨⟨(hS2113.subR [0, 1, 2, 3, 4, 5, 6, 7]).sub [0] (by decide), hx2107.symm⟩, trivial⟩
        rintro y2114 w2116 ⟨⟨hS2117, hq2115⟩, hF2118⟩
        subst hq2115
        refine WL.done rfl ?_
        injection hx2057 with hx2057
        exact WX.to Kx2056 x2106 [0, 2, 4, 33, 34, 75] rfl ⟨(hS2117.subR [0, 1, 2, 3, 4, 5, 6, 7]).sub [0] (by decide), hx2057.symm⟩
       refine seg 3 [] [0, 2, 4, 7, 33, 34, 39] [(0, (.pointer (some ⟨g_p0, 0, none⟩))), (2, (iv p2)), (4, (pt g1318)), (7, (iv x1913)), (33, (iv p0.width)), (34, (iv x1913)), (39, (.bool (p2 == 0)))] [] (fun fb => by kernel_rfl) rfl trivial ?_
       refine WL.setB 39 h2058 rfl ?_
       refine segF 13 [.v (.slice A_p0_edges_South p0.edges.South.length c_p0_edges_South), .v (iv (A8_Int.get p1.South x1913))] [0, 2, 4, 7, 33, 34, 39, 44, 45, 49] [(0, (.pointer (some ⟨g_p0, 0, none⟩))), (2, (iv p2)), (4, (pt g1318)), (7, (iv x1913)), (33, (iv p0.width)), (34, (iv x1913)), (39, (.bool true)), (44, (.slice A_p0_edges_South p0.edges.South.length c_p0_edges_South)), (45, (iv x1913)), (49, (iv (A8_Int.get p1.South x1913)))] [.idx (some ⟨0, 0, none⟩) x1913 8] [0, 1] [(7, ⟨g_p0, 5, none⟩, (.slice A_p0_edges_South p0.edges.South.length c_p0_edges_South)), (12, (flatA ⟨g1318, 1, none⟩ (x1913.toNat * 1)), (iv (A8_Int.get p1.South x1913)))] (fun fb => by kernel_rfl) rfl ⟨⟨h2094.1, h2094.2, rfl⟩, trivial⟩ rfl ?_
       obtain ⟨t2119, ht2120, hx2057⟩ := bind_some hx2057
       refine WL.call (some 50) 68 #[(.slice A_p0_edges_South p0.edges.South.length c_p0_edges_South), (iv x1913), (iv (A8_Int.get p1.South x1913))] (fun fb => by kernel_rfl) (fill_at_calls p0.edges.South x1913 (A8_Int.get p1.South x1913) A_p0_edges_South c_p0_edges_South t2119 _ (hS2092.rd 5) ht2120) (fun v w2121 hR2122 => ?_)
       obtain ⟨rfl, hk_⟩ := hR2122
       have hS2123 := hS2092.keepN hk_
       refine ⟨trivial, ?_⟩
       refine seg 17 [] [0, 2, 4, 7, 33, 34, 53] [(0, (.pointer (some ⟨g_p0, 0, none⟩))), (2, (iv p2)), (4, (pt g1318)), (7, (iv x1913)), (33, (iv p0.width)), (34, (iv x1913)), (53, (.bool (!t2119)))] [] (fun fb => by kernel_rfl) rfl trivial ?_
       obtain ⟨x2130, hx2131, hx2057⟩ := bind_some hx2057
       refine WL.cutW (T := Bool) 39 (fun t => [(0, (.pointer (some ⟨g_p0, 0, none⟩))), (2, (iv p2)), (4, (pt g1318)), (33, (iv p0.width)), (34, (iv x1913)), (75, (.bool t))]) (fun t w1 => (St NoS w w1 [blk g_p0 (.cells #[(.slice A_p0_rows p0.rows.length c_p0_rows), (iv p0.width), (iv p0.height), (.slice A_p0_edges_North p0.edges.North.length c_p0_edges_North), (.slice A_p0_edges_East p0.edges.East.length c_p0_edges_East), (.slice A_p0_edges_South p0.edges.South.length c_p0_edges_South), (.slice A_p0_edges_West p0.edges.West.length c_p0_edges_West)] 84 (0, 0)), rowR encN_Row A_p0_rows c_p0_rows (tag H_p0_rows p0.rows), nestO subN_Row H_p0_rows p0.rows, rowR encInt A_p0_edges_North c_p0_edges_North p0.edges.North, rowR encInt A_p0_edges_East c_p0_edges_East p0.edges.East, rowR encInt A_p0_edges_South c_p0_edges_South p0.edges.South, rowR encInt A_p0_edges_West c_p0_edges_West p0.edges.West, rowR encInt A_p1_Cells c_p1_Cells p1.Cells] [blk g1318 (.cells #[(.slice A_p1_Cells p1.Cells.length c_p1_Cells), (iv p1.South.e0), (iv p1.South.e1), (iv p1.South.e2), (iv p1.South.e3), (iv p1.South.e4), (iv p1.South.e5), (iv p1.South.e6), (iv p1.South.e7), (iv p1.North.e0), (iv p1.North.e1), (iv p1.North.e2), (iv p1.North.e3), (iv p1.North.e4), (iv p1.North.e5), (iv p1.North.e6), (iv p1.North.e7), (iv p1.West), (iv p1.East)] 88 (0, 0))] ∧ x2130 = t) ∧ CellsOK [] w1) (fun K => ?_) ?_
       ·
        rcases br_some hx2131 with ⟨h2132, hx2131⟩ | ⟨h2132, hx2131⟩
        ·
         refine WL.setB 53 h2132 rfl ?_
         refine seg 39 [] [0, 2, 4, 33, 34, 75] [(0, (.pointer (some ⟨g_p0, 0, none⟩))), (2, (iv p2)), (4, (pt g1318)), (33, (iv p0.width)), (34, (iv x1913)), (75, (.bool true))] [] (fun fb => by kernel_rfl) rfl trivial ?_
         injection hx2131 with hx2131
         exact WL.to K true [0, 2, 4, 33, 34, 75] rfl ⟨⟨(hS2123.subR [0, 1, 2, 3, 4, 5, 6, 7]).sub [0] (by decide), hx2131.symm⟩, trivial⟩
        refine WL.setB 53 h2132 rfl ?_
        refine seg 25 [.v (iv p0.height)] [0, 2, 4, 7, 33, 34, 53, 61] [(0, (.pointer (some ⟨g_p0, 0, none⟩))), (2, (iv p2)), (4, (pt g1318)), (7, (iv x1913)), (33, (iv p0.width)), (34, (iv x1913)), (53, (.bool false)), (61, (.bool (p2 == (w64 (p0.height - 1)))))] [.cell ⟨g_p0, 2, none⟩ (iv p0.height)] (fun fb => by kernel_rfl) rfl ⟨blk_cell (hS2123.rd 0).1 2 rfl, trivial⟩ ?_
        refine WL.setB 61 h2065 rfl ?_
        refine seg 35 [.v (iv (A8_Int.get p1.North x1913)), .v (.slice A_p0_edges_North p0.edges.North.length c_p0_edges_North)] [0, 2, 4, 33, 34, 53, 61, 66, 67, 71] [(0, (.pointer (some ⟨g_p0, 0, none⟩))), (2, (iv p2)), (4, (pt g1318)), (33, (iv p0.width)), (34, (iv x1913)), (53, (.bool false)), (61, (.bool true)), (66, (.slice A_p0_edges_North p0.edges.North.length c_p0_edges_North)), (67, (iv x1913)), (71, (iv (A8_Int.get p1.North x1913)))] [.idx (some ⟨0, 0, none⟩) x1913 8, .cell (flatA ⟨g1318, 9, none⟩ (x1913.toNat * 1)) (iv (A8_Int.get p1.North x1913)), .cell ⟨g_p0, 3, none⟩ (.slice A_p0_edges_North p0.edges.North.length c_p0_edges_North)] (fun fb => by kernel_rfl) rfl ⟨⟨h2094.1, h2094.2, rfl⟩, hS2123.cell 0 rfl _ (cases8 (Q := fun z_ => (#[(.slice A_p1_Cells p1.Cells.length c_p1_Cells), (iv p1.South.e0), (iv p1.South.e1), (iv p1.South.e2), (iv p1.South.e3), (iv p1.South.e4), (iv p1.South.e5), (iv p1.South.e6), (iv p1.South.e7), (iv p1.North.e0), (iv p1.North.e1), (iv p1.North.e2), (iv p1.North.e3), (iv p1.North.e4), (iv p1.North.e5), (iv p1.North.e6), (iv p1.North.e7), (iv p1.West), (iv p1.East)] : Array Value)[9 + z_.toNat * 1]? = some (iv (A8_Int.get p1.North z_))) h2094 (by kernel_rfl) (by kernel_rfl) (by kernel_rfl) (by kernel_rfl) (by kernel_rfl) (by kernel_rfl) (by kernel_rfl) (by kernel_rfl)), blk_cell (hS2123.rd 0).1 3 rfl, trivial⟩ ?_
        obtain ⟨t2133, ht2134, hx2131⟩ := bind_some hx2131
        refine WL.call (some 72) 68 #[(.slice A_p0_edges_North p0.edges.North.length c_p0_edges_North), (iv x1913), (iv (A8_Int.get p1.North x1913))] (fun fb => by kernel_rfl) (fill_at_calls p0.edges.North x1913 (A8_Int.get p1.North x1913) A_p0_edges_North c_p0_edges_North t2133 _ (hS2123.rd 3) ht2134) (fun v w2135 hR2136 => ?_)
        obtain ⟨rfl, hk_⟩ := hR2136
        have hS2137 := hS2123.keepN hk_
        refine ⟨trivial, ?_⟩
        refine seg 39 [] [0, 2, 4, 33, 34, 75] [(0, (.pointer (some ⟨g_p0, 0, none⟩))), (2, (iv p2)), (4, (pt g1318)), (33, (iv p0.width)), (34, (iv x1913)), (75, (.bool (!t2133)))] [] (fun fb => by kernel_rfl) rfl trivial ?_
        injection hx2131 with hx2131
        exact WL.to K (!t2133) [0, 2, 4, 33, 34, 75] rfl ⟨⟨(hS2137.subR [0, 1, 2, 3, 4, 5, 6, 7]).sub [0] (by decide), hx2131.symm⟩, trivial⟩
       rintro y2138 w2140 ⟨⟨hS2141, hq2139⟩, hF2142⟩
       subst hq2139
       refine WL.done rfl ?_
       injection hx2057 with hx2057
       exact WX.to Kx2056 x2130 [0, 2, 4, 33, 34, 75] rfl ⟨(hS2141.subR [0, 1, 2, 3, 4, 5, 6, 7]).sub [0] (by decide), hx2057.symm⟩
      obtain ⟨h2154, hx2057⟩ := as_some hx2057
      refine WC.regionD ([(7, ⟨g_p0, 5, none⟩, (.slice A_p0_edges_South p0.edges.South.length c_p0_edges_South)), (12, (flatA ⟨g1318, 1, none⟩ (x1913.toNat * 1)), (iv (A8_Int.get p1.South x1913)))], [0, 1, 2, 3, 4, 5, 6, 7, 8, 9, 10, 11, 12, 14, 15, 16, 17, 18, 19, 20, 22, 23, 24, 25, 26, 27, 28, 30, 31, 32, 33, 36, 37, 38], [[], [0], [0, 1], [0, 1, 2], [0, 1, 2, 3], [0, 1, 2, 3, 4], [0, 1, 2, 3, 4, 5], [0, 1, 2, 3, 4, 5, 6], [0, 1, 2], [0, 1, 2], [0, 1, 2], [0, 1, 2, 9, 10], [0, 1, 2, 9, 10, 11], [0, 1, 2, 3, 4, 5, 6, 7, 8, 9, 10, 11, 12], [0, 1, 2, 3, 4, 5, 6, 7, 8, 9, 10, 11, 12, 13], [0, 1, 2, 3, 4, 5, 6, 7, 8, 9, 10, 11, 12, 13, 14], [0, 1, 2, 3, 4, 5, 6, 7, 8, 9, 10, 11, 12, 13, 14, 15], [0, 1, 2, 3, 4, 5, 6, 7, 8, 9, 10, 11, 12, 13, 14, 15, 16], [0, 1, 2, 3, 4, 5, 6, 7, 8, 9, 10, 11, 12, 13, 14, 15, 16], [0, 1, 2, 3, 4, 5, 6, 7, 8, 9, 10, 11, 12, 13, 14, 15, 16, 18], [0, 1, 2, 3, 4, 5, 6, 7, 8, 9, 10, 11, 12, 13, 14, 15, 16, 18, 19], [0, 1, 2, 3, 4, 5, 6, 7, 8, 9, 10, 11, 12, 13, 14, 15, 16, 18, 19, 20], [0, 1, 2, 3, 4, 5, 6, 7, 8, 9, 10, 11, 12, 13, 14, 15, 16, 18, 19, 20, 21], [0, 1, 2, 3, 4, 5, 6, 7, 8, 9, 10, 11, 12, 13, 14, 15, 16, 17, 18, 19, 20, 21, 22], [0, 1, 2, 3, 4, 5, 6, 7, 8, 9, 10, 11, 12, 13, 14, 15, 16, 17, 18, 19, 20, 21, 22, 23], [0, 1, 2, 3, 4, 5, 6, 7, 8, 9, 10, 11, 12, 13, 14, 15, 16, 17, 18, 19, 20, 21, 22, 23, 24], [0, 1, 2, 3, 4, 5, 6, 7, 8, 9, 10, 11, 12, 13, 14, 15, 16, 17, 18, 19, 20, 21, 22, 23, 24, 25], [0, 1, 2, 3, 4, 5, 6, 7, 8, 9, 10, 11, 12, 13, 14, 15, 16, 17, 18, 19, 20, 21, 22, 23, 24, 25, 26], [0, 1, 2, 3, 4, 5, 6, 7, 8, 9, 10, 11, 12, 13, 14, 15, 16, 17, 18, 19, 20, 21, 22, 23, 24, 25, 26, 27], [0, 1, 2, 3, 4, 5, 6, 7, 8, 9, 10, 11, 12, 13, 14, 15, 16, 17, 18, 19, 20, 21, 22, 23, 24, 25, 26, 27, 28], [0, 1, 2, 3, 4, 5, 6, 7, 8, 9, 10, 11, 12, 13, 14, 15, 16, 17, 18, 19, 20, 21, 22, 23, 24], [0, 1, 2, 3, 4, 5, 6, 7, 8, 9, 10, 11, 12, 13, 14, 15, 16, 17, 18, 19, 20, 21, 22, 23, 24], [0, 1, 2, 3, 4, 5, 6, 7, 8, 9, 10, 11, 12, 13, 14, 15, 16, 17, 18, 19, 20, 21, 22, 23, 24], [0, 1, 2, 3, 4, 5, 6, 7, 8, 9, 10, 11, 12, 13, 14, 15, 16, 17, 18, 19, 20, 21, 22, 23, 24, 31, 32], [0, 1, 2, 3, 4, 5, 6, 7, 8, 9, 10, 11, 12, 13, 14, 15, 16, 17, 18, 19, 20, 21, 22, 23, 24, 31, 32, 33], [0, 1, 2, 3, 4, 5, 6, 7, 8, 9, 10, 11, 12, 13, 14, 15, 16, 17, 18, 19, 20, 21, 22, 23, 24, 25, 26, 27, 28, 29, 30, 31, 32, 33, 34], [0, 1, 2, 3, 4, 5, 6, 7, 8, 9, 10, 11, 12, 13, 14, 15, 16, 17, 18, 19, 20, 21, 22, 23, 24, 25, 26, 27, 28, 29, 30, 31, 32, 33, 34, 35], [0, 1, 2, 3, 4, 5, 6, 7, 8, 9, 10, 11, 12, 13, 14, 15, 16, 17, 18, 19, 20, 21, 22, 23, 24, 25, 26, 27, 28, 29, 30, 31, 32, 33, 34, 35, 36], [0, 1, 2, 3, 4, 5, 6, 7, 8, 9, 10, 11, 12, 13, 14, 15, 16, 17, 18, 19, 20, 21, 22, 23, 24, 25, 26, 27, 28, 29, 30, 31, 32, 33, 34, 35, 36, 37]]) [[0, 1, 2, 3, 4, 5, 6, 7, 8, 9, 10, 11, 12, 13, 14, 15, 16, 17, 18, 19, 20, 21, 22, 23, 24, 25, 26, 27, 28, 30, 31, 32, 33, 29, 34, 35, 36, 37, 38], [0, 1, 2, 3, 4, 5, 6, 7, 8, 9, 10, 11, 12, 13, 14, 15, 16, 17, 18, 19, 20, 21, 22, 23, 24, 25, 26, 27, 28, 30, 31, 32, 33, 34, 29, 35, 36, 37, 38]] (by kernel_rfl) (by kernel_rfl) (NoPanic.seq (NoPanic.block (NoPanic.seq (NoPanic.seq (NoPanic.block (NoPanic.seq (NoPanic.body))))))) ?_
      have hS2152 := hS1918.drew
      revert hS2152
      generalize World.drew w1917 = w2151
      intro hS2152
      refine ⟨⟨blk_cell (hS2152.rd 0).1 5 rfl, hS2152.cell 0 rfl _ (cases8 (Q := fun z_ => (#[(.slice A_p1_Cells p1.Cells.length c_p1_Cells), (iv p1.South.e0), (iv p1.South.e1), (iv p1.South.e2), (iv p1.South.e3), (iv p1.South.e4), (iv p1.South.e5), (iv p1.South.e6), (iv p1.South.e7), (iv p1.North.e0), (iv p1.North.e1), (iv p1.North.e2), (iv p1.North.e3), (iv p1.North.e4), (iv p1.North.e5), (iv p1.North.e6), (iv p1.North.e7), (iv p1.West), (iv p1.East)] : Array Value)[1 + z_.toNat * 1]? = some (iv (A8_Int.get p1.South z_))) h2154 (by kernel_rfl) (by kernel_rfl) (by kernel_rfl) (by kernel_rfl) (by kernel_rfl) (by kernel_rfl) (by kernel_rfl) (by kernel_rfl)), trivial⟩, forallC ?_ (forallC ?_ (forallN))⟩
      ·
       refine seg 3 [] [0, 2, 4, 7, 33, 34, 39] [(0, (.pointer (some ⟨g_p0, 0, none⟩))), (2, (iv p2)), (4, (pt g1318)), (7, (iv x1913)), (33, (iv p0.width)), (34, (iv x1913)), (39, (.bool (p2 == 0)))] [] (fun fb => by kernel_rfl) rfl trivial ?_
       refine WL.setB 39 h2058 rfl ?_
       refine segF 13 [.v (.slice A_p0_edges_South p0.edges.South.length c_p0_edges_South), .v (iv (A8_Int.get p1.South x1913))] [0, 2, 4, 7, 33, 34, 39, 44, 45, 49] [(0, (.pointer (some ⟨g_p0, 0, none⟩))), (2, (iv p2)), (4, (pt g1318)), (7, (iv x1913)), (33, (iv p0.width)), (34, (iv x1913)), (39, (.bool true)), (44, (.slice A_p0_edges_South p0.edges.South.length c_p0_edges_South)), (45, (iv x1913)), (49, (iv (A8_Int.get p1.South x1913)))] [.idx (some ⟨0, 0, none⟩) x1913 8] [0, 1] [(7, ⟨g_p0, 5, none⟩, (.slice A_p0_edges_South p0.edges.South.length c_p0_edges_South)), (12, (flatA ⟨g1318, 1, none⟩ (x1913.toNat * 1)), (iv (A8_Int.get p1.South x1913)))] (fun fb => by kernel_rfl) rfl ⟨⟨h2154.1, h2154.2, rfl⟩, trivial⟩ rfl ?_
       obtain ⟨t2155, ht2156, hx2057⟩ := bind_some hx2057
       refine WL.call (some 50) 68 #[(.slice A_p0_edges_South p0.edges.South.length c_p0_edges_South), (iv x1913), (iv (A8_Int.get p1.South x1913))] (fun fb => by kernel_rfl) (fill_at_calls p0.edges.South x1913 (A8_Int.get p1.South x1913) A_p0_edges_South c_p0_edges_South t2155 _ (hS2152.rd 5) ht2156) (fun v w2157 hR2158 => ?_)
       obtain ⟨rfl, hk_⟩ := hR2158
       have hS2159 := hS2152.keepN hk_
       refine ⟨trivial, ?_⟩
       refine seg 17 [] [0, 2, 4, 7, 33, 34, 53] [(0, (.pointer (some ⟨g_p0, 0, none⟩))), (2, (iv p2)), (4, (pt g1318)), (7, (iv x1913)), (33, (iv p0.width)), (34, (iv x1913)), (53, (.bool (!t2155)))] [] (fun fb => by kernel_rfl) rfl trivial ?_
       refine WL.cutV (T := Bool) 39 (fun t => [(75, (.bool t)), (0, (.pointer (some ⟨g_p0, 0, none⟩))), (2, (iv p2)), (4, (pt g1318)), (33, (iv p0.width)), (34, (iv x1913))]) (fun t => (!t2155) = t) (fun K => ?_) ?_
       ·
        rcases Bool.eq_false_or_eq_true (!t2155) with h2160 | h2160
        ·
         refine WL.setB 53 h2160 rfl ?_
         refine seg 39 [] [0, 2, 4, 33, 34, 75] [(0, (.pointer (some ⟨g_p0, 0, none⟩))), (2, (iv p2)), (4, (pt g1318)), (33, (iv p0.width)), (34, (iv x1913)), (75, (.bool true))] [] (fun fb => by kernel_rfl) rfl trivial ?_
         exact WL.toV K true [75, 0, 2, 4, 33, 34] rfl (by first | (rw [h2160]; done) | (rw [h2160]; rfl))
        refine WL.setB 53 h2160 rfl ?_
        refine seg 25 [.v (iv p0.height)] [0, 2, 4, 7, 33, 34, 53, 61] [(0, (.pointer (some ⟨g_p0, 0, none⟩))), (2, (iv p2)), (4, (pt g1318)), (7, (iv x1913)), (33, (iv p0.width)), (34, (iv x1913)), (53, (.bool false)), (61, (.bool (p2 == (w64 (p0.height - 1)))))] [.cell ⟨g_p0, 2, none⟩ (iv p0.height)] (fun fb => by kernel_rfl) rfl ⟨blk_cell (hS2159.rd 0).1 2 rfl, trivial⟩ ?_
        refine WL.setB 61 h2065 rfl ?_
        refine seg 39 [] [0, 2, 4, 33, 34, 75] [(0, (.pointer (some ⟨g_p0, 0, none⟩))), (2, (iv p2)), (4, (pt g1318)), (33, (iv p0.width)), (34, (iv x1913)), (75, (.bool false))] [] (fun fb => by kernel_rfl) rfl trivial ?_
        exact WL.toV K false [75, 0, 2, 4, 33, 34] rfl (by first | (rw [h2160]; done) | (rw [h2160]; rfl))
       rintro b2161 rfl
       refine WL.done rfl ?_
       injection hx2057 with hx2057
       exact WX.to Kx2056 (!t2155) [0, 2, 4, 33, 34, 75] rfl ⟨(hS2159.subR [0, 1, 2, 3, 4, 5, 6, 7]).sub [0] (by decide), hx2057.symm⟩
      refine seg 3 [] [0, 2, 4, 7, 33, 34, 39] [(0, (.pointer (some ⟨g_p0, 0, none⟩))), (2, (iv p2)), (4, (pt g1318)), (7, (iv x1913)), (33, (iv p0.width)), (34, (iv x1913)), (39, (.bool (p2 == 0)))] [] (fun fb => by kernel_rfl) rfl trivial ?_
      refine WL.setB 39 h2058 rfl ?_
      refine segF 13 [.v (.slice A_p0_edges_South p0.edges.South.length c_p0_edges_South), .v (iv (A8_Int.get p1.South x1913))] [0, 2, 4, 7, 33, 34, 39, 44, 45, 49] [(0, (.pointer (some ⟨g_p0, 0, none⟩))), (2, (iv p2)), (4, (pt g1318)), (7, (iv x1913)), (33, (iv p0.width)), (34, (iv x1913)), (39, (.bool true)), (44, (.slice A_p0_edges_South p0.edges.South.length c_p0_edges_South)), (45, (iv x1913)), (49, (iv (A8_Int.get p1.South x1913)))] [.idx (some ⟨0, 0, none⟩) x1913 8] [0, 1] [(7, ⟨g_p0, 5, none⟩, (.slice A_p0_edges_South p0.edges.South.length c_p0_edges_South)), (12, (flatA ⟨g1318, 1, none⟩ (x1913.toNat * 1)), (iv (A8_Int.get p1.South x1913)))] (fun fb => by kernel_rfl) rfl ⟨⟨h2154.1, h2154.2, rfl⟩, trivial⟩ rfl ?_
      obtain ⟨t2162, ht2163, hx2057⟩ := bind_some hx2057
      refine WL.call (some 50) 68 #[(.slice A_p0_edges_South p0.edges.South.length c_p0_edges_South), (iv x1913), (iv (A8_Int.get p1.South x1913))] (fun fb => by kernel_rfl) (fill_at_calls p0.edges.South x1913 (A8_Int.get p1.South x1913) A_p0_edges_South c_p0_edges_South t2162 _ (hS2152.rd 5) ht2163) (fun v w2164 hR2165 => ?_)
      obtain ⟨rfl, hk_⟩ := hR2165
      have hS2166 := hS2152.keepN hk_
      refine ⟨trivial, ?_⟩
      refine seg 17 [] [0, 2, 4, 7, 33, 34, 53] [(0, (.pointer (some ⟨g_p0, 0, none⟩))), (2, (iv p2)), (4, (pt g1318)), (7, (iv x1913)), (33, (iv p0.width)), (34, (iv x1913)), (53, (.bool (!t2162)))] [] (fun fb => by kernel_rfl) rfl trivial ?_
      refine WL.cutV (T := Bool) 39 (fun t => [(75, (.bool t)), (0, (.pointer (some ⟨g_p0, 0, none⟩))), (2, (iv p2)), (4, (pt g1318)), (33, (iv p0.width)), (34, (iv x1913))]) (fun t => (!t2162) = t) (fun K => ?_) ?_
      ·
       rcases Bool.eq_false_or_eq_true (!t2162) with h2167 | h2167
       ·
        refine WL.setB 53 h2167 rfl ?_
        refine seg 39 [] [0, 2, 4, 33, 34, 75] [(0, (.pointer (some ⟨g_p0, 0, none⟩))), (2, (iv p2)), (4, (pt g1318)), (33, (iv p0.width)), (34, (iv x1913)), (75, (.bool true))] [] (fun fb => by kernel_rfl) rfl trivial ?_
        exact WL.toV K true [75, 0, 2, 4, 33, 34] rfl (by first | (rw [h2167]; done) | (rw [h2167]; rfl))
       refine WL.setB 53 h2167 rfl ?_
       refine seg 25 [.v (iv p0.height)] [0, 2, 4, 7, 33, 34, 53, 61] [(0, (.pointer (some ⟨g_p0, 0, none⟩))), (2, (iv p2)), (4, (pt g1318)), (7, (iv x1913)), (33, (iv p0.width)), (34, (iv x1913)), (53, (.bool false)), (61, (.bool (p2 == (w64 (p0.height - 1)))))] [.cell ⟨g_p0, 2, none⟩ (iv p0.height)] (fun fb => by kernel_rfl) rfl ⟨blk_cell (hS2166.rd 0).1 2 rfl, trivial⟩ ?_
       refine WL.setB 61 h2065 rfl ?_
       refine seg 39 [] [0, 2, 4, 33, 34, 75] [(0, (.pointer (some ⟨g_p0, 0, none⟩))), (2, (iv p2)), (4, (pt g1318)), (33, (iv p0.width)), (34, (iv x1913)), (75, (.bool false))] [] (fun fb => by kernel_rfl) rfl trivial ?_
       exact WL.toV K false [75, 0, 2, 4, 33, 34] rfl (by first | (rw [h2167]; done) | (rw [h2167]; rfl))
      rintro b2168 rfl
      refine WL.done rfl ?_
      injection hx2057 with hx2057
      exact WX.to Kx2056 (!t2162) [0, 2, 4, 33, 34, 75] rfl ⟨(hS2166.subR [0, 1, 2, 3, 4, 5, 6, 7]).sub [0] (by decide), hx2057.symm⟩
     rcases br_some hx2057 with ⟨h2169, hx2057⟩ | ⟨h2169, hx2057⟩
     ·
      refine WC.regionD ([], [0, 1, 2, 3, 4, 5, 6, 7, 8, 9, 10, 11, 12, 14, 15, 16, 17, 18, 19, 20, 22, 23, 24, 25, 26, 27, 28, 30, 31, 32, 33, 36, 37, 38], [[], [0], [0, 1], [0, 1, 2], [0, 1, 2, 3], [0, 1, 2, 3, 4], [0, 1, 2, 3, 4, 5], [0, 1, 2, 3, 4, 5, 6], [0, 1, 2], [0, 1, 2], [0, 1, 2], [0, 1, 2, 9, 10], [0, 1, 2, 9, 10, 11], [0, 1, 2, 3, 4, 5, 6, 7, 8, 9, 10, 11, 12], [0, 1, 2, 3, 4, 5, 6, 7, 8, 9, 10, 11, 12, 13], [0, 1, 2, 3, 4, 5, 6, 7, 8, 9, 10, 11, 12, 13, 14], [0, 1, 2, 3, 4, 5, 6, 7, 8, 9, 10, 11, 12, 13, 14, 15], [0, 1, 2, 3, 4, 5, 6, 7, 8, 9, 10, 11, 12, 13, 14, 15, 16], [0, 1, 2, 3, 4, 5, 6, 7, 8, 9, 10, 11, 12, 13, 14, 15, 16], [0, 1, 2, 3, 4, 5, 6, 7, 8, 9, 10, 11, 12, 13, 14, 15, 16, 18], [0, 1, 2, 3, 4, 5, 6, 7, 8, 9, 10, 11, 12, 13, 14, 15, 16, 18, 19], [0, 1, 2, 3, 4, 5, 6, 7, 8, 9, 10, 11, 12, 13, 14, 15, 16, 18, 19, 20], [0, 1, 2, 3, 4, 5, 6, 7, 8, 9, 10, 11, 12, 13, 14, 15, 16, 18, 19, 20, 21], [0, 1, 2, 3, 4, 5, 6, 7, 8, 9, 10, 11, 12, 13, 14, 15, 16, 17, 18, 19, 20, 21, 22], [0, 1, 2, 3, 4, 5, 6, 7, 8, 9, 10, 11, 12, 13, 14, 15, 16, 17, 18, 19, 20, 21, 22, 23], [0, 1, 2, 3, 4, 5, 6, 7, 8, 9, 10, 11, 12, 13, 14, 15, 16, 17, 18, 19, 20, 21, 22, 23, 24], [0, 1, 2, 3, 4, 5, 6, 7, 8, 9, 10, 11, 12, 13, 14, 15, 16, 17, 18, 19, 20, 21, 22, 23, 24, 25], [0, 1, 2, 3, 4, 5, 6, 7, 8, 9, 10, 11, 12, 13, 14, 15, 16, 17, 18, 19, 20, 21, 22, 23, 24, 25, 26], [0, 1, 2, 3, 4, 5, 6, 7, 8, 9, 10, 11, 12, 13, 14, 15, 16, 17, 18, 19, 20, 21, 22, 23, 24, 25, 26, 27], [0, 1, 2, 3, 4, 5, 6, 7, 8, 9, 10, 11, 12, 13, 14, 15, 16, 17, 18, 19, 20, 21, 22, 23, 24, 25, 26, 27, 28], [0, 1, 2, 3, 4, 5, 6, 7, 8, 9, 10, 11, 12, 13, 14, 15, 16, 17, 18, 19, 20, 21, 22, 23, 24], [0, 1, 2, 3, 4, 5, 6, 7, 8, 9, 10, 11, 12, 13, 14, 15, 16, 17, 18, 19, 20, 21, 22, 23, 24], [0, 1, 2, 3, 4, 5, 6, 7, 8, 9, 10, 11, 12, 13, 14, 15, 16, 17, 18, 19, 20, 21, 22, 23, 24], [0, 1, 2, 3, 4, 5, 6, 7, 8, 9, 10, 11, 12, 13, 14, 15, 16, 17, 18, 19, 20, 21, 22, 23, 24, 31, 32], [0, 1, 2, 3, 4, 5, 6, 7, 8, 9, 10, 11, 12, 13, 14, 15, 16, 17, 18, 19, 20, 21, 22, 23, 24, 31, 32, 33], [0, 1, 2, 3, 4, 5, 6, 7, 8, 9, 10, 11, 12, 13, 14, 15, 16, 17, 18, 19, 20, 21, 22, 23, 24, 25, 26, 27, 28, 29, 30, 31, 32, 33, 34], [0, 1, 2, 3, 4, 5, 6, 7, 8, 9, 10, 11, 12, 13, 14, 15, 16, 17, 18, 19, 20, 21, 22, 23, 24, 25, 26, 27, 28, 29, 30, 31, 32, 33, 34, 35], [0, 1, 2, 3, 4, 5, 6, 7, 8, 9, 10, 11, 12, 13, 14, 15, 16, 17, 18, 19, 20, 21, 22, 23, 24, 25, 26, 27, 28, 29, 30, 31, 32, 33, 34, 35, 36], [0, 1, 2, 3, 4, 5, 6, 7, 8, 9, 10, 11, 12, 13, 14, 15, 16, 17, 18, 19, 20, 21, 22, 23, 24, 25, 26, 27, 28, 29, 30, 31, 32, 33, 34, 35, 36, 37]]) [[0, 1, 2, 3, 4, 5, 6, 7, 8, 9, 10, 11, 12, 13, 14, 15, 16, 17, 18, 19, 20, 21, 22, 23, 24, 25, 26, 27, 28, 30, 31, 32, 33, 29, 34, 35, 36, 37, 38], [0, 1, 2, 3, 4, 5, 6, 7, 8, 9, 10, 11, 12, 13, 14, 15, 16, 17, 18, 19, 20, 21, 22, 23, 24, 25, 26, 27, 28, 30, 31, 32, 33, 34, 29, 35, 36, 37, 38]] (by kernel_rfl) (by kernel_rfl) (NoPanic.seq (NoPanic.block (NoPanic.seq (NoPanic.seq (NoPanic.block (NoPanic.seq (NoPanic.body))))))) ?_
      have hS2177 := hS1918.drew
      revert hS2177
      generalize World.drew w1917 = w2176
      intro hS2177
      refine ⟨trivial, forallC ?_ (forallC ?_ (forallN))⟩
      ·
       refine seg 3 [] [0, 2, 4, 7, 33, 34, 39] [(0, (.pointer (some ⟨g_p0, 0, none⟩))), (2, (iv p2)), (4, (pt g1318)), (7, (iv x1913)), (33, (iv p0.width)), (34, (iv x1913)), (39, (.bool (p2 == 0)))] [] (fun fb => by kernel_rfl) rfl trivial ?_
       refine WL.setB 39 h2058 rfl ?_
       refine seg 25 [.v (iv p0.height)] [0, 2, 4, 7, 33, 34, 53, 61] [(0, (.pointer (some ⟨g_p0, 0, none⟩))), (2, (iv p2)), (4, (pt g1318)), (7, (iv x1913)), (33, (iv p0.width)), (34, (iv x1913)), (53, (.bool false)), (61, (.bool (p2 == (w64 (p0.height - 1)))))] [.cell ⟨g_p0, 2, none⟩ (iv p0.height)] (fun fb => by kernel_rfl) rfl ⟨blk_cell (hS2177.rd 0).1 2 rfl, trivial⟩ ?_
       refine WL.setB 61 h2169 rfl ?_
       refine seg 32 [] [0, 2, 4, 33, 34, 53, 61, 65, 67, 68, 69] [(0, (.pointer (some ⟨g_p0, 0, none⟩))), (2, (iv p2)), (4, (pt g1318)), (33, (iv p0.width)), (34, (iv x1913)), (53, (.bool false)), (61, (.bool true)), (65, (.pointer (some ⟨g_p0, 3, none⟩))), (67, (iv x1913)), (68, (iv x1913)), (69, (.pointer (some ⟨g1318, 9, none⟩)))] [] (fun fb => by kernel_rfl) rfl trivial ?_
       obtain ⟨h2178, hx2057⟩ := as_some hx2057
       refine seg 35 [.v (.slice A_p0_edges_North p0.edges.North.length c_p0_edges_North), .v (iv (A8_Int.get p1.North x1913))] [0, 2, 4, 33, 34, 53, 61, 66, 67, 71] [(0, (.pointer (some ⟨g_p0, 0, none⟩))), (2, (iv p2)), (4, (pt g1318)), (33, (iv p0.width)), (34, (iv x1913)), (53, (.bool false)), (61, (.bool true)), (66, (.slice A_p0_edges_North p0.edges.North.length c_p0_edges_North)), (67, (iv x1913)), (71, (iv (A8_Int.get p1.North x1913)))] [.idx (some ⟨0, 0, none⟩) x1913 8, .cell ⟨g_p0, 3, none⟩ (.slice A_p0_edges_North p0.edges.North.length c_p0_edges_North), .cell (flatA ⟨g1318, 9, none⟩ (x1913.toNat * 1)) (iv (A8_Int.get p1.North x1913))] (fun fb => by kernel_rfl) rfl ⟨⟨h2178.1, h2178.2, rfl⟩, blk_cell (hS2177.rd 0).1 3 rfl, hS2177.cell 0 rfl _ (cases8 (Q := fun z_ => (#[(.slice A_p1_Cells p1.Cells.length c_p1_Cells), (iv p1.South.e0), (iv p1.South.e1), (iv p1.South.e2), (iv p1.South.e3), (iv p1.South.e4), (iv p1.South.e5), (iv p1.South.e6), (iv p1.South.e7), (iv p1.North.e0), (iv p1.North.e1), (iv p1.North.e2), (iv p1.North.e3), (iv p1.North.e4), (iv p1.North.e5), (iv p1.North.e6), (iv p1.North.e7), (iv p1.West), (iv p1.East)] : Array Value)[9 + z_.toNat * 1]? = some (iv (A8_Int.get p1.North z_))) h2178 (by kernel_rfl) (by kernel_rfl) (by kernel_rfl) (by kernel_rfl) (by kernel_rfl) (by kernel_rfl) (by kernel_rfl) (by kernel_rfl)), trivial⟩ ?_
       obtain ⟨t2179, ht2180, hx2057⟩ := bind_some hx2057
       refine WL.call (some 72) 68 #[(.slice A_p0_edges_North p0.edges.North.length c_p0_edges_North), (iv x1913), (iv (A8_Int.get p1.North x1913))] (fun fb => by kernel_rfl) (fill_at_calls p0.edges.North x1913 (A8_Int.get p1.North x1913) A_p0_edges_North c_p0_edges_North t2179 _ (hS2177.rd 3) ht2180) (fun v w2181 hR2182 => ?_)
       obtain ⟨rfl, hk_⟩ := hR2182
       have hS2183 := hS2177.keepN hk_
       refine ⟨trivial, ?_⟩
       refine seg 39 [] [0, 2, 4, 33, 34, 75] [(0, (.pointer (some ⟨g_p0, 0, none⟩))), (2, (iv p2)), (4, (pt g1318)), (33, (iv p0.width)), (34, (iv x1913)), (75, (.bool (!t2179)))] [] (fun fb => by kernel_rfl) rfl trivial ?_
       refine WL.done rfl ?_
       injection hx2057 with hx2057
       exact WX.to Kx2056 (!t2179) [0, 2, 4, 33, 34, 75] rfl ⟨(hS2183.subR [0, 1, 2, 3, 4, 5, 6, 7]).sub [0] (by decide), hx2057.symm⟩
      refine seg 3 [] [0, 2, 4, 7, 33, 34, 39] [(0, (.pointer (some ⟨g_p0, 0, none⟩))), (2, (iv p2)), (4, (pt g1318)), (7, (iv x1913)), (33, (iv p0.width)), (34, (iv x1913)), (39, (.bool (p2 == 0)))] [] (fun fb => by kernel_rfl) rfl trivial ?_
      refine WL.setB 39 h2058 rfl ?_
      refine seg 25 [.v (iv p0.height)] [0, 2, 4, 7, 33, 34, 53, 61] [(0, (.pointer (some ⟨g_p0, 0, none⟩))), (2, (iv p2)), (4, (pt g1318)), (7, (iv x1913)), (33, (iv p0.width)), (34, (iv x1913)), (53, (.bool false)), (61, (.bool (p2 == (w64 (p0.height - 1)))))] [.cell ⟨g_p0, 2, none⟩ (iv p0.height)] (fun fb => by kernel_rfl) rfl ⟨blk_cell (hS2177.rd 0).1 2 rfl, trivial⟩ ?_
      refine WL.setB 61 h2169 rfl ?_
      refine seg 32 [] [0, 2, 4, 33, 34, 53, 61, 65, 67, 68, 69] [(0, (.pointer (some ⟨g_p0, 0, none⟩))), (2, (iv p2)), (4, (pt g1318)), (33, (iv p0.width)), (34, (iv x1913)), (53, (.bool false)), (61, (.bool true)), (65, (.pointer (some ⟨g_p0, 3, none⟩))), (67, (iv x1913)), (68, (iv x1913)), (69, (.pointer (some ⟨g1318, 9, none⟩)))] [] (fun fb => by kernel_rfl) rfl trivial ?_
      obtain ⟨h2184, hx2057⟩ := as_some hx2057
      refine seg 35 [.v (iv (A8_Int.get p1.North x1913)), .v (.slice A_p0_edges_North p0.edges.North.length c_p0_edges_North)] [0, 2, 4, 33, 34, 53, 61, 66, 67, 71] [(0, (.pointer (some ⟨g_p0, 0, none⟩))), (2, (iv p2)), (4, (pt g1318)), (33, (iv p0.width)), (34, (iv x1913)), (53, (.bool false)), (61, (.bool true)), (66, (.slice A_p0_edges_North p0.edges.North.length c_p0_edges_North)), (67, (iv x1913)), (71, (iv (A8_Int.get p1.North x1913)))] [.idx (some ⟨0, 0, none⟩) x1913 8, .cell (flatA ⟨g1318, 9, none⟩ (x1913.toNat * 1)) (iv (A8_Int.get p1.North x1913)), .cell ⟨g_p0, 3, none⟩ (.slice A_p0_edges_North p0.edges.North.length c_p0_edges_North)] (fun fb => by kernel_rfl) rfl ⟨⟨h2184.1, h2184.2, rfl⟩, hS2177.cell 0 rfl _ (cases8 (Q := fun z_ => (#[(.slice A_p1_Cells p1.Cells.length c_p1_Cells), (iv p1.South.e0), (iv p1.South.e1), (iv p1.South.e2), (iv p1.South.e3), (iv p1.South.e4), (iv p1.South.e5), (iv p1.South.e6), (iv p1.South.e7), (iv p1.North.e0), (iv p1.North.e1), (iv p1.North.e2), (iv p1.North.e3), (iv p1.North.e4), (iv p1.North.e5), (iv p1.North.e6), (iv p1.North.e7), (iv p1.West), (iv p1.East)] : Array Value)[9 + z_.toNat * 1]? = some (iv (A8_Int.get p1.North z_))) h2184 (by kernel_rfl) (by kernel_rfl) (by kernel_rfl) (by kernel_rfl) (by kernel_rfl) (by kernel_rfl) (by kernel_rfl) (by kernel_rfl)), blk_cell (hS2177.rd 0).1 3 rfl, trivial⟩ ?_
      obtain ⟨t2185, ht2186, hx2057⟩ := bind_some hx2057
      refine WL.call (some 72) 68 #[(.slice A_p0_edges_North p0.edges.North.length c_p0_edges_North), (iv x1913), (iv (A8_Int.get p1.North x1913))] (fun fb => by kernel_rfl) (fill_at_calls p0.edges.North x1913 (A8_Int.get p1.North x1913) A_p0_edges_North c_p0_edges_North t2185 _ (hS2177.rd 3) ht2186) (fun v w2187 hR2188 => ?_)
      obtain ⟨rfl, hk_⟩ := hR2188
      have hS2189 := hS2177.keepN hk_
      refine ⟨trivial, ?_⟩
      refine seg 39 [] [0, 2, 4, 33, 34, 75] [(0, (.pointer (some ⟨g_p0, 0, none⟩))), (2, (iv p2)), (4, (pt g1318)), (33, (iv p0.width)), (34, (iv x1913)), (75, (.bool (!t2185)))] [] (fun fb => by kernel_rfl) rfl trivial ?_
      refine WL.done rfl ?_
      injection hx2057 with hx2057
      exact WX.to Kx2056 (!t2185) [0, 2, 4, 33, 34, 75] rfl ⟨(hS2189.subR [0, 1, 2, 3, 4, 5, 6, 7]).sub [0] (by decide), hx2057.symm⟩
     refine WC.regionD ([], [0, 1, 2, 3, 4, 5, 6, 7, 8, 9, 10, 11, 12, 14, 15, 16, 17, 18, 19, 20, 22, 23, 24, 25, 26, 27, 28, 30, 31, 32, 33, 36, 37, 38], [[], [0], [0, 1], [0, 1, 2], [0, 1, 2, 3], [0, 1, 2, 3, 4], [0, 1, 2, 3, 4, 5], [0, 1, 2, 3, 4, 5, 6], [0, 1, 2], [0, 1, 2], [0, 1, 2], [0, 1, 2, 9, 10], [0, 1, 2, 9, 10, 11], [0, 1, 2, 3, 4, 5, 6, 7, 8, 9, 10, 11, 12], [0, 1, 2, 3, 4, 5, 6, 7, 8, 9, 10, 11, 12, 13], [0, 1, 2, 3, 4, 5, 6, 7, 8, 9, 10, 11, 12, 13, 14], [0, 1, 2, 3, 4, 5, 6, 7, 8, 9, 10, 11, 12, 13, 14, 15], [0, 1, 2, 3, 4, 5, 6, 7, 8, 9, 10, 11, 12, 13, 14, 15, 16], [0, 1, 2, 3, 4, 5, 6, 7, 8, 9, 10, 11, 12, 13, 14, 15, 16], [0, 1, 2, 3, 4, 5, 6, 7, 8, 9, 10, 11, 12, 13, 14, 15, 16, 18], [0, 1, 2, 3, 4, 5, 6, 7, 8, 9, 10, 11, 12, 13, 14, 15, 16, 18, 19], [0, 1, 2, 3, 4, 5, 6, 7, 8, 9, 10, 11, 12, 13, 14, 15, 16, 18, 19, 20], [0, 1, 2, 3, 4, 5, 6, 7, 8, 9, 10, 11, 12, 13, 14, 15, 16, 18, 19, 20, 21], [0, 1, 2, 3, 4, 5, 6, 7, 8, 9, 10, 11, 12, 13, 14, 15, 16, 17, 18, 19, 20, 21, 22], [0, 1, 2, 3, 4, 5, 6, 7, 8, 9, 10, 11, 12, 13, 14, 15, 16, 17, 18, 19, 20, 21, 22, 23], [0, 1, 2, 3, 4, 5, 6, 7, 8, 9, 10, 11, 12, 13, 14, 15, 16, 17, 18, 19, 20, 21, 22, 23, 24], [0, 1, 2, 3, 4, 5, 6, 7, 8, 9, 10, 11, 12, 13, 14, 15, 16, 17, 18, 19, 20, 21, 22, 23, 24, 25], [0, 1, 2, 3, 4, 5, 6, 7, 8, 9, 10, 11, 12, 13, 14, 15, 16, 17, 18, 19, 20, 21, 22, 23, 24, 25, 26], [0, 1, 2, 3, 4, 5, 6, 7, 8, 9, 10, 11, 12, 13, 14, 15, 16, 17, 18, 19, 20, 21, 22, 23, 24, 25, 26, 27], [0, 1, 2, 3, 4, 5, 6, 7, 8, 9, 10, 11, 12, 13, 14, 15, 16, 17, 18, 19, 20, 21, 22, 23, 24, 25, 26, 27, 28], [0, 1, 2, 3, 4, 5, 6, 7, 8, 9, 10, 11, 12, 13, 14, 15, 16, 17, 18, 19, 20, 21, 22, 23, 24], [0, 1, 2, 3, 4, 5, 6, 7, 8, 9, 10, 11, 12, 13, 14, 15, 16, 17, 18, 19, 20, 21, 22, 23, 24], [0, 1, 2, 3, 4, 5, 6, 7, 8, 9, 10, 11, 12, 13, 14, 15, 16, 17, 18, 19, 20, 21, 22, 23, 24], [0, 1, 2, 3, 4, 5, 6, 7, 8, 9, 10, 11, 12, 13, 14, 15, 16, 17, 18, 19, 20, 21, 22, 23, 24, 31, 32], [0, 1, 2, 3, 4, 5, 6, 7, 8, 9, 10, 11, 12, 13, 14, 15, 16, 17, 18, 19, 20, 21, 22, 23, 24, 31, 32, 33], [0, 1, 2, 3, 4, 5, 6, 7, 8, 9, 10, 11, 12, 13, 14, 15, 16, 17, 18, 19, 20, 21, 22, 23, 24, 25, 26, 27, 28, 29, 30, 31, 32, 33, 34], [0, 1, 2, 3, 4, 5, 6, 7, 8, 9, 10, 11, 12, 13, 14, 15, 16, 17, 18, 19, 20, 21, 22, 23, 24, 25, 26, 27, 28, 29, 30, 31, 32, 33, 34, 35], [0, 1, 2, 3, 4, 5, 6, 7, 8, 9, 10, 11, 12, 13, 14, 15, 16, 17, 18, 19, 20, 21, 22, 23, 24, 25, 26, 27, 28, 29, 30, 31, 32, 33, 34, 35, 36], [0, 1, 2, 3, 4, 5, 6, 7, 8, 9, 10, 11, 12, 13, 14, 15, 16, 17, 18, 19, 20, 21, 22, 23, 24, 25, 26, 27, 28, 29, 30, 31, 32, 33, 34, 35, 36, 37]]) [[0, 1, 2, 3, 4, 5, 6, 7, 8, 9, 10, 11, 12, 13, 14, 15, 16, 17, 18, 19, 20, 21, 22, 23, 24, 25, 26, 27, 28, 30, 31, 32, 33, 29, 34, 35, 36, 37, 38], [0, 1, 2, 3, 4, 5, 6, 7, 8, 9, 10, 11, 12, 13, 14, 15, 16, 17, 18, 19, 20, 21, 22, 23, 24, 25, 26, 27, 28, 30, 31, 32, 33, 34, 29, 35, 36, 37, 38]] (by kernel_rfl) (by kernel_rfl) (NoPanic.seq (NoPanic.block (NoPanic.seq (NoPanic.seq (NoPanic.block (NoPanic.seq (NoPanic.body))))))) ?_
     have hS2191 := hS1918.drew
     revert hS2191
     generalize World.drew w1917 = w2190
     intro hS2191
     refine ⟨trivial, forallC ?_ (forallC ?_ (forallN))⟩
     ·
      refine seg 3 [] [0, 2, 4, 7, 33, 34, 39] [(0, (.pointer (some ⟨g_p0, 0, none⟩))), (2, (iv p2)), (4, (pt g1318)), (7, (iv x1913)), (33, (iv p0.width)), (34, (iv x1913)), (39, (.bool (p2 == 0)))] [] (fun fb => by kernel_rfl) rfl trivial ?_
      refine WL.setB 39 h2058 rfl ?_
      refine seg 25 [.v (iv p0.height)] [0, 2, 4, 7, 33, 34, 53, 61] [(0, (.pointer (some ⟨g_p0, 0, none⟩))), (2, (iv p2)), (4, (pt g1318)), (7, (iv x1913)), (33, (iv p0.width)), (34, (iv x1913)), (53, (.bool false)), (61, (.bool (p2 == (w64 (p0.height - 1)))))] [.cell ⟨g_p0, 2, none⟩ (iv p0.height)] (fun fb => by kernel_rfl) rfl ⟨blk_cell (hS2191.rd 0).1 2 rfl, trivial⟩ ?_
      refine WL.setB 61 h2169 rfl ?_
      refine seg 39 [] [0, 2, 4, 33, 34, 75] [(0, (.pointer (some ⟨g_p0, 0, none⟩))), (2, (iv p2)), (4, (pt g1318)), (33, (iv p0.width)), (34, (iv x1913)), (75, (.bool false))] [] (fun fb => by kernel_rfl) rfl trivial ?_
      refine WL.done rfl ?_
      injection hx2057 with hx2057
      exact WX.to Kx2056 false [0, 2, 4, 33, 34, 75] rfl ⟨(hS2191.subR [0, 1, 2, 3, 4, 5, 6, 7]).sub [0] (by decide), hx2057.symm⟩
     refine seg 3 [] [0, 2, 4, 7, 33, 34, 39] [(0, (.pointer (some ⟨g_p0, 0, none⟩))), (2, (iv p2)), (4, (pt g1318)), (7, (iv x1913)), (33, (iv p0.width)), (34, (iv x1913)), (39, (.bool (p2 == 0)))] [] (fun fb => by kernel_rfl) rfl trivial ?_
     refine WL.setB 39 h2058 rfl ?_
     refine seg 25 [.v (iv p0.height)] [0, 2, 4, 7, 33, 34, 53, 61] [(0, (.pointer (some ⟨g_p0, 0, none⟩))), (2, (iv p2)), (4, (pt g1318)), (7, (iv x1913)), (33, (iv p0.width)), (34, (iv x1913)), (53, (.bool false)), (61, (.bool (p2 == (w64 (p0.height - 1)))))] [.cell ⟨g_p0, 2, none⟩ (iv p0.height)] (fun fb => by kernel_rfl) rfl ⟨blk_cell (hS2191.rd 0).1 2 rfl, trivial⟩ ?_
     refine WL.setB 61 h2169 rfl ?_
     refine seg 39 [] [0, 2, 4, 33, 34, 75] [(0, (.pointer (some ⟨g_p0, 0, none⟩))), (2, (iv p2)), (4, (pt g1318)), (33, (iv p0.width)), (34, (iv x1913)), (75, (.bool false))] [] (fun fb => by kernel_rfl) rfl trivial ?_
     refine WL.done rfl ?_
     injection hx2057 with hx2057
     exact WX.to Kx2056 false [0, 2, 4, 33, 34, 75] rfl ⟨(hS2191.subR [0, 1, 2, 3, 4, 5, 6, 7]).sub [0] (by decide), hx2057.symm⟩
    rintro y2195 w2192 ⟨hS2193, hq2194⟩
    subst hq2194
    refine WX.next ?_
    rcases br_some hl1919 with ⟨h2196, hl1919⟩ | ⟨h2196, hl1919⟩
    ·refine WC.condT2 (fun fb => by kernel_rfl) h2196 ?_
     refine WC.seq ?_
     refine WC.region ?_
     refine seg 1 [] [6] [(6, (.bool false))] [] (fun fb => by kernel_rfl) rfl trivial ?_
     refine WL.done rfl ?_
     refine WX.next ?_
     refine WC.ret ?_
     injection hl1919 with hl1919
     subst hl1919
     injection hf with hf
     subst hf
     exact WX.blockR (WX.thenR (WX.thenR (WX.blockR (WX.thenR (WX.ret_ [] (.bool false) [] (fun fb => by kernel_rfl) trivial ⟨_, rfl, rfl, hS2193.keep⟩)))))
    refine WC.condF2 (fun fb => by kernel_rfl) h2196 ?_
    refine WC.skip ?_
    refine WX.blockN (WX.next ?_)
    refine WC.region ?_
    refine seg 2 [] [0, 2, 4, 33, 34] [(0, (.pointer (some ⟨g_p0, 0, none⟩))), (2, (iv p2)), (4, (pt g1318)), (33, (iv p0.width)), (34, (iv (w64 (x1913 + 1))))] [] (fun fb => by kernel_rfl) rfl trivial ?_
    refine WL.done rfl ?_
    exact WX.again k1916 (Nat.lt_succ_self _) (w64 (x1913 + 1)) [0, 2, 4, 33, 34] rfl ⟨(hS2193.subR [0, 1, 2, 3, 4, 5, 6, 7]).sub [0] (by decide), hl1919⟩
   refine WC.condF2 (fun fb => by kernel_rfl) h1920 ?_
   refine WC.exit ?_
   injection hl1919 with hl1919
   exact WX.thenX (WX.thenX (WX.blockHere (WX.to Kx1914 () [] rfl ⟨(hS1918.subR [0, 1, 2, 3, 4, 5, 6, 7]).sub [] (by decide), hl1919.symm⟩)))
 rintro y2200 w2197 ⟨hS2198, hq2199⟩
 subst hq2199
 have hf := sum_inr hf
 refine WX.next ?_
 refine WC.seq ?_
 refine WC.region ?_
 refine seg 1 [] [6] [(6, (.bool true))] [] (fun fb => by kernel_rfl) rfl trivial ?_
 refine WL.done rfl ?_
 refine WX.next ?_
 refine WC.ret ?_
 injection hf with hf
 subst hf
 exact WX.ret_ [] (.bool true) [] (fun fb => by kernel_rfl) trivial ⟨_, rfl, rfl, hS2198.keep⟩
end Gp
