/- Walks: each function of the program computes its plain function. -/
import Derived.Test.YtmdkdigmkcpceaaGp
set_option linter.unusedVariables false
set_option linter.unusedSimpArgs false
set_option maxHeartbeats 4000000
namespace Gp
open Go Gw Go.Proofs
theorem tile_colour_1_calls (p0 : Int)  (r : Bool) (w : World)  (hf : tile_colour_1 p0 = some r) :
  CallsR Try.prog 80 #[(iv p0)] w (fun v w' => v = (.bool r) ∧ Keeps NoS w w') := by
 have hS : St NoS w w [] [] := St.init (ro_nil _ _)
 refine enter 9 Try.func80 rfl Try.ntmps80 rfl ?_
 unfold tile_colour_1 at hf
 refine WC.seq ?_
 refine WC.region ?_
 refine seg 1 [] [0] [(0, (iv p0))] [] (fun fb => by kernel_rfl) rfl trivial ?_
 refine WL.done rfl ?_
 refine WX.next ?_
 refine WC.seq ?_
 refine WC.region ?_
 refine seg 3 [] [0, 5] [(0, (iv p0)), (5, (.bool (decide (p0 < 0))))] [] (fun fb => by kernel_rfl) rfl trivial ?_
 refine WL.cutV (T := Bool) 6 (fun t => [(8, (.bool t))]) (fun t => ((decide (p0 < 0)) || (decide (p0 ≥ 1000))) = t) (fun K => ?_) ?_
 ·
  rcases Bool.eq_false_or_eq_true (decide (p0 < 0)) with h32 | h32
  ·
   refine WL.setB 5 h32 rfl ?_
   refine seg 6 [] [8] [(8, (.bool true))] [] (fun fb => by kernel_rfl) rfl trivial ?_
   exact WL.toV K true [8] rfl (by first | (rw [h32]; done) | (rw [h32]; rfl))
  refine WL.setB 5 h32 rfl ?_
  refine seg 6 [] [8] [(8, (.bool (decide (p0 ≥ 1000))))] [] (fun fb => by kernel_rfl) rfl trivial ?_
  exact WL.toV K (decide (p0 ≥ 1000)) [8] rfl (by first | (rw [h32]; done) | (rw [h32]; rfl))
 rintro b33 rfl
 refine seg 7 [] [2] [(2, (.bool ((decide (p0 < 0)) || (decide (p0 ≥ 1000)))))] [] (fun fb => by kernel_rfl) rfl trivial ?_
 refine WL.done rfl ?_
 refine WX.next ?_
 refine WC.ret ?_
 injection hf with hf
 subst hf
 exact WX.ret_ [] (.bool ((decide (p0 < 0)) || (decide (p0 ≥ 1000)))) [] (fun fb => by kernel_rfl) trivial ⟨_, rfl, rfl, hS.keep⟩
theorem slices_IndexFunc_int_int_with_tile_colour_1_calls (k : Nat) (p0 : List Int) (A_p0 : Option Addr) (c_p0 : Nat) (r : Int) (w : World) (hR0 : RO NoS w (rowR encInt A_p0 c_p0 p0)) (hf : slices_IndexFunc_int_int_with_tile_colour_1 k p0 = some r) :
  CallsR Try.prog 81 #[(.slice A_p0 p0.length c_p0), (.func (.func 80) #[] #[])] w (fun v w' => v = (iv r) ∧ Keeps NoS w w') := by
 have hS : St NoS w w [rowR encInt A_p0 c_p0 p0] [] := St.init (ro_cons hR0 (ro_nil _ _))
 refine enter 19 Try.func81 rfl Try.ntmps81 rfl ?_
 unfold slices_IndexFunc_int_int_with_tile_colour_1 at hf
 refine WC.seq ?_
 refine WC.region ?_
 refine seg 1 [] [0, 1] [(0, (.slice A_p0 p0.length c_p0)), (1, (.func (.func 80) #[] #[]))] [] (fun fb => by kernel_rfl) rfl trivial ?_
 refine WL.done rfl ?_
 refine WX.next ?_
 refine WC.seq ?_
 refine WC.seq ?_
 refine WC.region ?_
 refine seg 3 [] [0, 1, 7, 8] [(0, (.slice A_p0 p0.length c_p0)), (1, (.func (.func 80) #[] #[])), (7, (iv (p0.length : Int))), (8, (iv 0))] [] (fun fb => by kernel_rfl) rfl trivial ?_
 refine WL.done rfl ?_
 refine WX.next ?_
 obtain ⟨x50, hx51, hf⟩ := bind_some hf
 refine WC.cutN (T := Unit) (fun t => []) (fun t w1 => St NoS w w1 [rowR encInt A_p0 c_p0 p0] [] ∧ x50 = .inr t) (fun Kx50 => ?_) ?_
 ·
  refine WC.block ?_
  refine WC.loop (T := Int) (fun t => [(0, (.slice A_p0 p0.length c_p0)), (1, (.func (.func 80) #[] #[])), (7, (iv (p0.length : Int))), (8, (iv t))]) (fun n t w1 => St NoS w w1 [rowR encInt A_p0 c_p0 p0] [] ∧ slices_IndexFunc_int_int_with_tile_colour_1.l0 n t p0 = some x50) k 0 [0, 1, 7, 8] rfl ⟨(hS.subR [0]).sub [] (by decide), hx51⟩ ?_
  rintro k52 x49 w53 ⟨hS54, hl55⟩
  cases k52 with
  | zero => rw [slices_IndexFunc_int_int_with_tile_colour_1.l0] at hl55; cases hl55
  | succ k52 =>
   rw [slices_IndexFunc_int_int_with_tile_colour_1.l0] at hl55
   refine WC.seq ?_
   refine WC.region ?_
   refine seg 1 [] [0, 1, 7, 8, 9] [(0, (.slice A_p0 p0.length c_p0)), (1, (.func (.func 80) #[] #[])), (7, (iv (p0.length : Int))), (8, (iv x49)), (9, (.bool (decide (x49 < (p0.length : Int)))))] [] (fun fb => by kernel_rfl) rfl trivial ?_
   refine WL.done rfl ?_
   refine WX.next ?_
   refine WC.seq ?_
   rcases br_some hl55 with ⟨h56, hl55⟩ | ⟨h56, hl55⟩
   ·refine WC.condT2 (fun fb => by kernel_rfl) h56 ?_
    refine WC.skip ?_
    refine WX.next ?_
    refine WC.seq ?_
    refine WC.block ?_
    refine WC.seq ?_
    refine WC.region ?_
    refine seg 2 [] [0, 1, 5, 7, 8] [(0, (.slice A_p0 p0.length c_p0)), (1, (.func (.func 80) #[] #[])), (5, (iv x49)), (7, (iv (p0.length : Int))), (8, (iv x49))] [] (fun fb => by kernel_rfl) rfl trivial ?_
    refine WL.done rfl ?_
    refine WX.next ?_
    refine WC.seq ?_
    refine WC.region ?_
    refine seg 3 [] [0, 1, 5, 7, 8, 11, 12, 13] [(0, (.slice A_p0 p0.length c_p0)), (1, (.func (.func 80) #[] #[])), (5, (iv x49)), (7, (iv (p0.length : Int))), (8, (iv x49)), (11, (.func (.func 80) #[] #[])), (12, (.slice A_p0 p0.length c_p0)), (13, (iv x49))] [] (fun fb => by kernel_rfl) rfl trivial ?_
    obtain ⟨h57, hl55⟩ := as_some hl55
    refine seg 5 [.v (iv (rdD p0 x49 0))] [0, 1, 5, 7, 8, 11, 15] [(0, (.slice A_p0 p0.length c_p0)), (1, (.func (.func 80) #[] #[])), (5, (iv x49)), (7, (iv (p0.length : Int))), (8, (iv x49)), (11, (.func (.func 80) #[] #[])), (15, (iv (rdD p0 x49 0)))] [.idx A_p0 x49 p0.length, .cell ((adr A_p0).add ((x49).toNat * 1)) (iv (rdD p0 x49 0))] (fun fb => by kernel_rfl) rfl ⟨rowR.adr (hS54.rd 0).1 h57.1 h57.2, rowR.cell (hS54.rd 0).1 0 h57.1 h57.2 0 rfl, trivial⟩ ?_
    obtain ⟨t58, ht59, hl55⟩ := bind_some hl55
    refine WL.call (some 16) 80 #[(iv (rdD p0 x49 0))] (fun fb => by kernel_rfl) (tile_colour_1_calls (rdD p0 x49 0) t58 _ ht59) (fun v w60 hR61 => ?_)
    obtain ⟨rfl, hk_⟩ := hR61
    have hS62 := hS54.keepN hk_
    refine ⟨trivial, ?_⟩
    refine WL.done rfl ?_
    refine WX.next ?_
    rcases br_some hl55 with ⟨h63, hl55⟩ | ⟨h63, hl55⟩
    ·refine WC.condT2 (fun fb => by kernel_rfl) h63 ?_
     refine WC.seq ?_
     refine WC.region ?_
     refine seg 2 [] [4] [(4, (iv x49))] [] (fun fb => by kernel_rfl) rfl trivial ?_
     refine WL.done rfl ?_
     refine WX.next ?_
     refine WC.ret ?_
     injection hl55 with hl55
     subst hl55
     injection hf with hf
     subst hf
     exact WX.blockR (WX.thenR (WX.thenR (WX.blockR (WX.thenR (WX.ret_ [] (iv x49) [] (fun fb => by kernel_rfl) trivial ⟨_, rfl, rfl, hS62.keep⟩)))))
    refine WC.condF2 (fun fb => by kernel_rfl) h63 ?_
    refine WC.skip ?_
    refine WX.blockN (WX.next ?_)
    refine WC.region ?_
    refine seg 2 [] [0, 1, 7, 8] [(0, (.slice A_p0 p0.length c_p0)), (1, (.func (.func 80) #[] #[])), (7, (iv (p0.length : Int))), (8, (iv (w64 (x49 + 1))))] [] (fun fb => by kernel_rfl) rfl trivial ?_
    refine WL.done rfl ?_
    exact WX.again k52 (Nat.lt_succ_self _) (w64 (x49 + 1)) [0, 1, 7, 8] rfl ⟨(hS62.subR [0]).sub [] (by decide), hl55⟩
   refine WC.condF2 (fun fb => by kernel_rfl) h56 ?_
   refine WC.exit ?_
   injection hl55 with hl55
   exact WX.thenX (WX.thenX (WX.blockHere (WX.to Kx50 () [] rfl ⟨(hS54.subR [0]).sub [] (by decide), hl55.symm⟩)))
 rintro y67 w64 ⟨hS65, hq66⟩
 subst hq66
 have hf := sum_inr hf
 refine WX.next ?_
 refine WC.seq ?_
 refine WC.region ?_
 refine seg 1 [] [4] [(4, (iv (-1)))] [] (fun fb => by kernel_rfl) rfl trivial ?_
 refine WL.done rfl ?_
 refine WX.next ?_
 refine WC.ret ?_
 injection hf with hf
 subst hf
 exact WX.ret_ [] (iv (-1)) [] (fun fb => by kernel_rfl) trivial ⟨_, rfl, rfl, hS65.keep⟩
theorem slices_ContainsFunc_int_int_with_tile_colour_1_calls (k : Nat) (p0 : List Int) (A_p0 : Option Addr) (c_p0 : Nat) (r : Bool) (w : World) (hR0 : RO NoS w (rowR encInt A_p0 c_p0 p0)) (hf : slices_ContainsFunc_int_int_with_tile_colour_1 k p0 = some r) :
  CallsR Try.prog 65 #[(.slice A_p0 p0.length c_p0), (.func (.func 80) #[] #[])] w (fun v w' => v = (.bool r) ∧ Keeps NoS w w') := by
 have hS : St NoS w w [rowR encInt A_p0 c_p0 p0] [] := St.init (ro_cons hR0 (ro_nil _ _))
 refine enter 9 Try.func65 rfl Try.ntmps65 rfl ?_
 unfold slices_ContainsFunc_int_int_with_tile_colour_1 at hf
 refine WC.seq ?_
 refine WC.region ?_
 refine seg 1 [] [0, 1] [(0, (.slice A_p0 p0.length c_p0)), (1, (.func (.func 80) #[] #[]))] [] (fun fb => by kernel_rfl) rfl trivial ?_
 refine WL.done rfl ?_
 refine WX.next ?_
 refine WC.seq ?_
 refine WC.region ?_
 refine seg 2 [] [5, 6] [(5, (.slice A_p0 p0.length c_p0)), (6, (.func (.func 80) #[] #[]))] [] (fun fb => by kernel_rfl) rfl trivial ?_
 obtain ⟨t69, ht70, hf⟩ := bind_some hf
 refine WL.call (some 7) 81 #[(.slice A_p0 p0.length c_p0), (.func (.func 80) #[] #[])] (fun fb => by kernel_rfl) (slices_IndexFunc_int_int_with_tile_colour_1_calls _ p0 A_p0 c_p0 t69 _ (hS.rd 0) ht70) (fun v w71 hR72 => ?_)
 obtain ⟨rfl, hk_⟩ := hR72
 have hS73 := hS.keepN hk_
 refine ⟨trivial, ?_⟩
 refine seg 5 [] [4] [(4, (.bool (decide (t69 ≥ 0))))] [] (fun fb => by kernel_rfl) rfl trivial ?_
 refine WL.done rfl ?_
 refine WX.next ?_
 refine WC.ret ?_
 injection hf with hf
 subst hf
 exact WX.ret_ [] (.bool (decide (t69 ≥ 0))) [] (fun fb => by kernel_rfl) trivial ⟨_, rfl, rfl, hS73.keep⟩
theorem tile_colour_calls (k : Nat) (p0 : List Int) (A_p0 : Option Addr) (c_p0 : Nat) (r : Bool) (w : World) (hR0 : RO NoS w (rowR encInt A_p0 c_p0 p0)) (hf : tile_colour k p0 = some r) :
  CallsR Try.prog 59 #[(.slice A_p0 p0.length c_p0)] w (fun v w' => v = (.bool r) ∧ Keeps NoS w w') := by
 have hS : St NoS w w [rowR encInt A_p0 c_p0 p0] [] := St.init (ro_cons hR0 (ro_nil _ _))
 refine enter 6 Try.func59 rfl Try.ntmps59 rfl ?_
 unfold tile_colour at hf
 refine WC.seq ?_
 refine WC.region ?_
 refine seg 1 [] [0] [(0, (.slice A_p0 p0.length c_p0))] [] (fun fb => by kernel_rfl) rfl trivial ?_
 refine WL.done rfl ?_
 refine WX.next ?_
 refine WC.seq ?_
 refine WC.region ?_
 refine seg 1 [] [3] [(3, (.slice A_p0 p0.length c_p0))] [] (fun fb => by kernel_rfl) rfl trivial ?_
 obtain ⟨t74, ht75, hf⟩ := bind_some hf
 refine WL.call (some 4) 65 #[(.slice A_p0 p0.length c_p0), (.func (.func 80) #[] #[])] (fun fb => by kernel_rfl) (slices_ContainsFunc_int_int_with_tile_colour_1_calls _ p0 A_p0 c_p0 t74 _ (hS.rd 0) ht75) (fun v w76 hR77 => ?_)
 obtain ⟨rfl, hk_⟩ := hR77
 have hS78 := hS.keepN hk_
 refine ⟨trivial, ?_⟩
 refine seg 4 [] [2] [(2, (.bool (!t74)))] [] (fun fb => by kernel_rfl) rfl trivial ?_
 refine WL.done rfl ?_
 refine WX.next ?_
 refine WC.ret ?_
 injection hf with hf
 subst hf
 exact WX.ret_ [] (.bool (!t74)) [] (fun fb => by kernel_rfl) trivial ⟨_, rfl, rfl, hS78.keep⟩
theorem tile_Valid_key24 : KeyK Try.prog 24 (aggI ints_Tile) := KeyK.struct (n := 4) (by kernel_rfl) ints_Tile (fun _ => rfl) (fun x y h => by cases x; cases y; simp only [ints_Tile, List.cons.injEq, and_true] at h; obtain ⟨rfl, rfl, rfl, rfl⟩ := h; rfl)
theorem tile_Valid_calls (k : Nat) (p0 : List Tile) (A_p0 : Option Addr) (c_p0 : Nat) (r : Bool) (w : World) (hR0 : RO NoS w (rowR enc_Tile A_p0 c_p0 p0)) (hf : tile_Valid k p0 = some r) :
  CallsR Try.prog 38 #[(.slice A_p0 p0.length c_p0)] w (fun v w' => v = (.bool r) ∧ Keeps NoS w w') := by
 have hS : St NoS w w [rowR enc_Tile A_p0 c_p0 p0] [] := St.init (ro_cons hR0 (ro_nil _ _))
 refine enter 35 Try.func38 rfl Try.ntmps38 rfl ?_
 unfold tile_Valid at hf
 refine WC.seq ?_
 refine WC.region ?_
 refine seg 1 [] [0] [(0, (.slice A_p0 p0.length c_p0))] [] (fun fb => by kernel_rfl) rfl trivial ?_
 refine WL.done rfl ?_
 refine WX.next ?_
 refine WC.seq ?_
 refine WC.seq ?_
 refine WC.region ?_
 refine seg 3 [] [0, 8] [(0, (.slice A_p0 p0.length c_p0)), (8, (.bool (decide ((p0.length : Int) > 1000))))] [] (fun fb => by kernel_rfl) rfl trivial ?_
 refine WL.done rfl ?_
 refine WX.next ?_
 rcases br_some hf with ⟨h13, hf⟩ | ⟨h13, hf⟩
 ·refine WC.condT2 (fun fb => by kernel_rfl) h13 ?_
  refine WC.seq ?_
  refine WC.region ?_
  refine seg 1 [] [2] [(2, (.bool false))] [] (fun fb => by kernel_rfl) rfl trivial ?_
  refine WL.done rfl ?_
  refine WX.next ?_
  refine WC.ret ?_
  injection hf with hf
  subst hf
  exact WX.thenR (WX.ret_ [] (.bool false) [] (fun fb => by kernel_rfl) trivial ⟨_, rfl, rfl, hS.keep⟩)
 refine WC.condF2 (fun fb => by kernel_rfl) h13 ?_
 refine WC.skip ?_
 refine WX.next ?_
 refine WC.seq ?_
 refine WC.region ?_
 refine WL.new hS 9 [] (fun g => (.map (some g))) (mapObj (aggI ints_Tile) vB ([] : List (Tile × Bool))) [] (fun fb g => by kernel_rfl) trivial (fun g14 w15 hS16 => ?_)
 refine ⟨trivial, ?_⟩
 refine seg 2 [] [0, 3] [(0, (.slice A_p0 p0.length c_p0)), (3, (.map (some g14)))] [] (fun fb => by kernel_rfl) rfl trivial ?_
 refine WL.done rfl ?_
 refine WX.next ?_
 refine WC.seq ?_
 refine WC.seq ?_
 refine WC.region ?_
 refine seg 3 [] [3, 10, 11, 12] [(3, (.map (some g14))), (10, (.slice A_p0 p0.length c_p0)), (11, (iv (p0.length : Int))), (12, (iv 0))] [] (fun fb => by kernel_rfl) rfl trivial ?_
 refine WL.done rfl ?_
 refine WX.next ?_
 obtain ⟨x150, hx151, hf⟩ := bind_some hf
 refine WC.cutN (T := Unit) (fun t => []) (fun t w1 => St NoS w w1 [rowR enc_Tile A_p0 c_p0 p0] [] ∧ x150 = .inr t) (fun Kx150 => ?_) ?_
 ·
  refine WC.block ?_
  refine WC.loop (T := (List (Tile × Bool)) × Int) (fun t => [(3, (.map (some g14))), (10, (.slice A_p0 p0.length c_p0)), (11, (iv (p0.length : Int))), (12, (iv t.2))]) (fun n t w1 => St NoS w w1 [rowR enc_Tile A_p0 c_p0 p0] [blk g14 (mapObj (aggI ints_Tile) vB t.1)] ∧ tile_Valid.l0 n t.1 t.2 p0 = some x150) k (([] : List (Tile × Bool)), 0) [3, 10, 11, 12] rfl ⟨(hS16.subR [0]).sub [0] (by decide), hx151⟩ ?_
  rintro k152 ⟨l148, x149⟩ w153 ⟨hS154, hl155⟩
  cases k152 with
  | zero => rw [tile_Valid.l0] at hl155; cases hl155
  | succ k152 =>
   rw [tile_Valid.l0] at hl155
   refine WC.seq ?_
   refine WC.region ?_
   refine seg 1 [] [3, 10, 11, 12, 13] [(3, (.map (some g14))), (10, (.slice A_p0 p0.length c_p0)), (11, (iv (p0.length : Int))), (12, (iv x149)), (13, (.bool (decide (x149 < (p0.length : Int)))))] [] (fun fb => by kernel_rfl) rfl trivial ?_
   refine WL.done rfl ?_
   refine WX.next ?_
   refine WC.seq ?_
   rcases br_some hl155 with ⟨h156, hl155⟩ | ⟨h156, hl155⟩
   ·refine WC.condT2 (fun fb => by kernel_rfl) h156 ?_
    refine WC.skip ?_
    refine WX.next ?_
    refine WC.seq ?_
    refine WC.block ?_
    refine WC.seq ?_
    refine WC.region ?_
    obtain ⟨h157, hl155⟩ := as_some hl155
    refine seg 2 [.v (iv ((rdD p0 x149 z_Tile).N)), .v (iv ((rdD p0 x149 z_Tile).E)), .v (iv ((rdD p0 x149 z_Tile).S)), .v (iv ((rdD p0 x149 z_Tile).W))] [3, 10, 11, 12, 15] [(3, (.map (some g14))), (10, (.slice A_p0 p0.length c_p0)), (11, (iv (p0.length : Int))), (12, (iv x149)), (15, (.agg #[(iv ((rdD p0 x149 z_Tile).N)), (iv ((rdD p0 x149 z_Tile).E)), (iv ((rdD p0 x149 z_Tile).S)), (iv ((rdD p0 x149 z_Tile).W))]))] [.idx A_p0 x149 p0.length, .cell ((adr A_p0).add ((x149).toNat * 4)) (iv ((rdD p0 x149 z_Tile).N)), .cell (((adr A_p0).add ((x149).toNat * 4)).add 1) (iv ((rdD p0 x149 z_Tile).E)), .cell (((adr A_p0).add ((x149).toNat * 4)).add 2) (iv ((rdD p0 x149 z_Tile).S)), .cell (((adr A_p0).add ((x149).toNat * 4)).add 3) (iv ((rdD p0 x149 z_Tile).W))] (fun fb => by kernel_rfl) rfl ⟨rowR.adr (hS154.rd 0).1 h157.1 h157.2, rowR.cell (hS154.rd 0).1 z_Tile h157.1 h157.2 0 rfl, rowR.cell (hS154.rd 0).1 z_Tile h157.1 h157.2 1 rfl, rowR.cell (hS154.rd 0).1 z_Tile h157.1 h157.2 2 rfl, rowR.cell (hS154.rd 0).1 z_Tile h157.1 h157.2 3 rfl, trivial⟩ ?_
    refine WL.new hS154 5 [] (fun g => (.pointer (some ⟨g, 0, none⟩))) (.cells #[(iv 0), (iv 0), (iv 0), (iv 0)] 24 (0, 0)) [] (fun fb g => by kernel_rfl) trivial (fun g158 w159 hS160 => ?_)
    refine ⟨trivial, ?_⟩
    refine WL.store hS160 0 rfl [(0, (iv ((rdD p0 x149 z_Tile).N))), (1, (iv ((rdD p0 x149 z_Tile).E))), (2, (iv ((rdD p0 x149 z_Tile).S))), (3, (iv ((rdD p0 x149 z_Tile).W)))] #[(iv ((rdD p0 x149 z_Tile).N)), (iv ((rdD p0 x149 z_Tile).E)), (iv ((rdD p0 x149 z_Tile).S)), (iv ((rdD p0 x149 z_Tile).W))] (fun fb => by kernel_rfl) (by kernel_rfl) rfl [1] (by decide) (by decide) (fun w162 hS163 => ?_)
    refine ⟨trivial, ?_⟩
    refine WL.done rfl ?_
    refine WX.next ?_
    refine WC.seq ?_
    refine WC.seq ?_
    refine WC.region ?_
    refine seg 2 [.v (iv ((rdD p0 x149 z_Tile).N)), .v (iv ((rdD p0 x149 z_Tile).E)), .v (iv ((rdD p0 x149 z_Tile).S)), .v (iv ((rdD p0 x149 z_Tile).W))] [3, 5, 10, 11, 12, 16, 17] [(3, (.map (some g14))), (5, (pt g158)), (10, (.slice A_p0 p0.length c_p0)), (11, (iv (p0.length : Int))), (12, (iv x149)), (16, (.map (some g14))), (17, (.agg #[(iv ((rdD p0 x149 z_Tile).N)), (iv ((rdD p0 x149 z_Tile).E)), (iv ((rdD p0 x149 z_Tile).S)), (iv ((rdD p0 x149 z_Tile).W))]))] [.cell ⟨g158, 0, none⟩ (iv ((rdD p0 x149 z_Tile).N)), .cell ⟨g158, 1, none⟩ (iv ((rdD p0 x149 z_Tile).E)), .cell ⟨g158, 2, none⟩ (iv ((rdD p0 x149 z_Tile).S)), .cell ⟨g158, 3, none⟩ (iv ((rdD p0 x149 z_Tile).W))] (fun fb => by kernel_rfl) rfl ⟨hS163.cell 0 rfl 0 rfl, hS163.cell 0 rfl 1 rfl, hS163.cell 0 rfl 2 rfl, hS163.cell 0 rfl 3 rfl, trivial⟩ ?_
    refine WL.lookup (hS163.own 1).1 (rdD p0 x149 z_Tile) (d := 18) (c := false) (t := 100) (kT := 24) (eT := 4) (z := false) (kE := (aggI ints_Tile)) (vE := vB) (l := l148) (.bool (mget (rdD p0 x149 z_Tile) false l148)) (fun fb => by kernel_rfl) tile_Valid_key24 (by kernel_rfl) (fun _ => by kernel_rfl) rfl ?_
    refine ⟨trivial, ?_⟩
    refine seg 4 [] [3, 5, 10, 11, 12, 19] [(3, (.map (some g14))), (5, (pt g158)), (10, (.slice A_p0 p0.length c_p0)), (11, (iv (p0.length : Int))), (12, (iv x149)), (19, (.bool (mget (rdD p0 x149 z_Tile) false l148)))] [] (fun fb => by kernel_rfl) rfl trivial ?_
    obtain ⟨x175, hx176, hl155⟩ := bind_some hl155
    refine WL.cutW (T := Bool) 16 (fun t => [(3, (.map (some g14))), (5, (pt g158)), (10, (.slice A_p0 p0.length c_p0)), (11, (iv (p0.length : Int))), (12, (iv x149)), (31, (.bool t))]) (fun t w1 => (St NoS w w1 [rowR enc_Tile A_p0 c_p0 p0] [blk g14 (mapObj (aggI ints_Tile) vB l148), blk g158 (.cells #[(iv ((rdD p0 x149 z_Tile).N)), (iv ((rdD p0 x149 z_Tile).E)), (iv ((rdD p0 x149 z_Tile).S)), (iv ((rdD p0 x149 z_Tile).W))] 24 (0, 0))] ∧ x175 = t) ∧ CellsOK [] w1) (fun K => ?_) ?_
    ·
     rcases br_some hx176 with ⟨h177, hx176⟩ | ⟨h177, hx176⟩
     ·
      refine WL.setB 19 h177 rfl ?_
      refine seg 16 [] [3, 5, 10, 11, 12, 31] [(3, (.map (some g14))), (5, (pt g158)), (10, (.slice A_p0 p0.length c_p0)), (11, (iv (p0.length : Int))), (12, (iv x149)), (31, (.bool true))] [] (fun fb => by kernel_rfl) rfl trivial ?_
      injection hx176 with hx176
      exact WL.to K true [3, 5, 10, 11, 12, 31] rfl ⟨⟨(hS163.subR [0]).sub [1, 0] (by decide), hx176.symm⟩, trivial⟩
     refine WL.setB 19 h177 rfl ?_
     refine seg 12 [.v (iv ((rdD p0 x149 z_Tile).N)), .v (iv ((rdD p0 x149 z_Tile).E)), .v (iv ((rdD p0 x149 z_Tile).S)), .v (iv ((rdD p0 x149 z_Tile).W))] [3, 5, 10, 11, 12, 19, 21, 23, 25, 27] [(3, (.map (some g14))), (5, (pt g158)), (10, (.slice A_p0 p0.length c_p0)), (11, (iv (p0.length : Int))), (12, (iv x149)), (19, (.bool false)), (21, (iv ((rdD p0 x149 z_Tile).N))), (23, (iv ((rdD p0 x149 z_Tile).E))), (25, (iv ((rdD p0 x149 z_Tile).S))), (27, (iv ((rdD p0 x149 z_Tile).W)))] [.cell ⟨g158, 0, none⟩ (iv ((rdD p0 x149 z_Tile).N)), .cell ⟨g158, 1, none⟩ (iv ((rdD p0 x149 z_Tile).E)), .cell ⟨g158, 2, none⟩ (iv ((rdD p0 x149 z_Tile).S)), .cell ⟨g158, 3, none⟩ (iv ((rdD p0 x149 z_Tile).W))] (fun fb => by kernel_rfl) rfl ⟨hS163.cell 0 rfl 0 rfl, hS163.cell 0 rfl 1 rfl, hS163.cell 0 rfl 2 rfl, hS163.cell 0 rfl 3 rfl, trivial⟩ ?_
     refine WL.new hS163 28 [] (fun g => (.slice (some ⟨g, 0, none⟩) 4 4)) (.cells #[(iv ((rdD p0 x149 z_Tile).N)), (iv ((rdD p0 x149 z_Tile).E)), (iv ((rdD p0 x149 z_Tile).S)), (iv ((rdD p0 x149 z_Tile).W))] 3 (0, 0)) [] (fun fb g => by kernel_rfl) trivial (fun g178 w179 hS180 => ?_)
     refine ⟨trivial, ?_⟩
     have hS182 : St NoS w w179 [rowR enc_Tile A_p0 c_p0 p0] [rowO 3 encInt (some ⟨g178, 0, none⟩) 4 [(rdD p0 x149 z_Tile).N, (rdD p0 x149 z_Tile).E, (rdD p0 x149 z_Tile).S, (rdD p0 x149 z_Tile).W], blk g158 (.cells #[(iv ((rdD p0 x149 z_Tile).N)), (iv ((rdD p0 x149 z_Tile).E)), (iv ((rdD p0 x149 z_Tile).S)), (iv ((rdD p0 x149 z_Tile).W))] 24 (0, 0)), blk g14 (mapObj (aggI ints_Tile) vB l148)] := hS180.map1 0 _ (fun h => rowO.ofBlk h rfl (Nat.le_of_ble_eq_true (by kernel_rfl))) (fun _ h => by obtain ⟨_, h1, h2⟩ := h; injection h1 with h1; subst h1; exact h2) [1, 2] (by decide) (by decide)
     obtain ⟨t183, ht184, hx176⟩ := bind_some hx176
     refine WL.call (some 29) 59 #[(.slice (some ⟨g178, 0, none⟩) [(rdD p0 x149 z_Tile).N, (rdD p0 x149 z_Tile).E, (rdD p0 x149 z_Tile).S, (rdD p0 x149 z_Tile).W].length 4)] (fun fb => by kernel_rfl) (tile_colour_calls _ [(rdD p0 x149 z_Tile).N, (rdD p0 x149 z_Tile).E, (rdD p0 x149 z_Tile).S, (rdD p0 x149 z_Tile).W] (some ⟨g178, 0, none⟩) 4 t183 _ (hS182.ow 0).ofO ht184) (fun v w185 hR186 => ?_)
     obtain ⟨rfl, hk_⟩ := hR186
     have hS187 := hS182.keepN hk_
     refine ⟨trivial, ?_⟩
     refine seg 16 [] [3, 5, 10, 11, 12, 31] [(3, (.map (some g14))), (5, (pt g158)), (10, (.slice A_p0 p0.length c_p0)), (11, (iv (p0.length : Int))), (12, (iv x149)), (31, (.bool (!t183)))] [] (fun fb => by kernel_rfl) rfl trivial ?_
     injection hx176 with hx176
     exact WL.to K (!t183) [3, 5, 10, 11, 12, 31] rfl ⟨⟨(hS187.subR [0]).sub [2, 1] (by decide), hx176.symm⟩, trivial⟩
    rintro y188 w190 ⟨⟨hS191, hq189⟩, hF192⟩
    subst hq189
    refine WL.done rfl ?_
    refine WX.next ?_
    rcases br_some hl155 with ⟨h193, hl155⟩ | ⟨h193, hl155⟩
    ·refine WC.condT2 (fun fb => by kernel_rfl) h193 ?_
     refine WC.seq ?_
     refine WC.region ?_
     refine seg 1 [] [2] [(2, (.bool false))] [] (fun fb => by kernel_rfl) rfl trivial ?_
     refine WL.done rfl ?_
     refine WX.next ?_
     refine WC.ret ?_
     injection hl155 with hl155
     subst hl155
     injection hf with hf
     subst hf
     exact WX.thenR (WX.blockR (WX.thenR (WX.thenR (WX.blockR (WX.thenR (WX.ret_ [] (.bool false) [] (fun fb => by kernel_rfl) trivial ⟨_, rfl, rfl, hS191.keep⟩))))))
    refine WC.condF2 (fun fb => by kernel_rfl) h193 ?_
    refine WC.skip ?_
    refine WX.next ?_
    refine WC.region ?_
    refine seg 2 [.v (iv ((rdD p0 x149 z_Tile).N)), .v (iv ((rdD p0 x149 z_Tile).E)), .v (iv ((rdD p0 x149 z_Tile).S)), .v (iv ((rdD p0 x149 z_Tile).W))] [3, 10, 11, 12, 32, 33] [(3, (.map (some g14))), (10, (.slice A_p0 p0.length c_p0)), (11, (iv (p0.length : Int))), (12, (iv x149)), (32, (.map (some g14))), (33, (.agg #[(iv ((rdD p0 x149 z_Tile).N)), (iv ((rdD p0 x149 z_Tile).E)), (iv ((rdD p0 x149 z_Tile).S)), (iv ((rdD p0 x149 z_Tile).W))]))] [.cell ⟨g158, 0, none⟩ (iv ((rdD p0 x149 z_Tile).N)), .cell ⟨g158, 1, none⟩ (iv ((rdD p0 x149 z_Tile).E)), .cell ⟨g158, 2, none⟩ (iv ((rdD p0 x149 z_Tile).S)), .cell ⟨g158, 3, none⟩ (iv ((rdD p0 x149 z_Tile).W))] (fun fb => by kernel_rfl) rfl ⟨hS191.cell 1 rfl 0 rfl, hS191.cell 1 rfl 1 rfl, hS191.cell 1 rfl 2 rfl, hS191.cell 1 rfl 3 rfl, trivial⟩ ?_
    refine WL.mapput hS191 0 (t := 100) (kT := 24) (eT := 4) (kE := (aggI ints_Tile)) (vE := vB) (l := l148) rfl (rdD p0 x149 z_Tile) true (fun fb => by kernel_rfl) tile_Valid_key24 (by kernel_rfl) [1] (by decide) (by decide) (fun w194 hS195 => ?_)
    refine ⟨trivial, ?_⟩
    refine WL.done rfl ?_
    refine WX.blockN (WX.next ?_)
    refine WC.region ?_
    refine seg 2 [] [3, 10, 11, 12] [(3, (.map (some g14))), (10, (.slice A_p0 p0.length c_p0)), (11, (iv (p0.length : Int))), (12, (iv (w64 (x149 + 1))))] [] (fun fb => by kernel_rfl) rfl trivial ?_
    refine WL.done rfl ?_
    exact WX.again k152 (Nat.lt_succ_self _) (mput (rdD p0 x149 z_Tile) true l148, w64 (x149 + 1)) [3, 10, 11, 12] rfl ⟨(hS195.subR [0]).sub [0] (by decide), hl155⟩
   refine WC.condF2 (fun fb => by kernel_rfl) h156 ?_
   refine WC.exit ?_
   injection hl155 with hl155
   exact WX.thenX (WX.thenX (WX.blockHere (WX.to Kx150 () [] rfl ⟨(hS154.subR [0]).sub [] (by decide), hl155.symm⟩)))
 rintro y199 w196 ⟨hS197, hq198⟩
 subst hq198
 have hf := sum_inr hf
 refine WX.next ?_
 refine WC.seq ?_
 refine WC.region ?_
 refine seg 1 [] [2] [(2, (.bool true))] [] (fun fb => by kernel_rfl) rfl trivial ?_
 refine WL.done rfl ?_
 refine WX.next ?_
 refine WC.ret ?_
 injection hf with hf
 subst hf
 exact WX.ret_ [] (.bool true) [] (fun fb => by kernel_rfl) trivial ⟨_, rfl, rfl, hS197.keep⟩
theorem decide_asks_calls (k : Nat) (p0 : List Tile) (A_p0 : Option Addr) (c_p0 : Nat) (r : Int) (w : World) (hR0 : RO NoS w (rowR enc_Tile A_p0 c_p0 p0)) (hf : decide_asks k p0 = some r) :
  CallsR Try.prog 43 #[(.slice A_p0 p0.length c_p0)] w (fun v w' => v = (iv r) ∧ Keeps NoS w w') := by
 have hS : St NoS w w [rowR enc_Tile A_p0 c_p0 p0] [] := St.init (ro_cons hR0 (ro_nil _ _))
 refine enter 11 Try.func43 rfl Try.ntmps43 rfl ?_
 unfold decide_asks at hf
 refine WC.seq ?_
 refine WC.region ?_
 refine seg 1 [] [0] [(0, (.slice A_p0 p0.length c_p0))] [] (fun fb => by kernel_rfl) rfl trivial ?_
 refine WL.done rfl ?_
 refine WX.next ?_
 refine WC.seq ?_
 refine WC.block ?_
 refine WC.seq ?_
 refine WC.region ?_
 refine seg 1 [] [0, 4] [(0, (.slice A_p0 p0.length c_p0)), (4, (.slice A_p0 p0.length c_p0))] [] (fun fb => by kernel_rfl) rfl trivial ?_
 obtain ⟨t201, ht202, hf⟩ := bind_some hf
 refine WL.call (some 5) 38 #[(.slice A_p0 p0.length c_p0)] (fun fb => by kernel_rfl) (tile_Valid_calls _ p0 A_p0 c_p0 t201 _ (hS.rd 0) ht202) (fun v w203 hR204 => ?_)
 obtain ⟨rfl, hk_⟩ := hR204
 have hS205 := hS.keepN hk_
 refine ⟨trivial, ?_⟩
 refine seg 4 [] [0, 3] [(0, (.slice A_p0 p0.length c_p0)), (3, (.bool (!t201)))] [] (fun fb => by kernel_rfl) rfl trivial ?_
 refine WL.done rfl ?_
 refine WX.next ?_
 rcases br_some hf with ⟨h206, hf⟩ | ⟨h206, hf⟩
 ·refine WC.condT2 (fun fb => by kernel_rfl) h206 ?_
  refine WC.seq ?_
  refine WC.region ?_
  refine seg 1 [] [2] [(2, (iv 1))] [] (fun fb => by kernel_rfl) rfl trivial ?_
  refine WL.done rfl ?_
  refine WX.next ?_
  refine WC.ret ?_
  injection hf with hf
  subst hf
  exact WX.blockR (WX.thenR (WX.ret_ [] (iv 1) [] (fun fb => by kernel_rfl) trivial ⟨_, rfl, rfl, hS205.keep⟩))
 refine WC.condF2 (fun fb => by kernel_rfl) h206 ?_
 refine WC.seq ?_
 refine WC.region ?_
 refine seg 4 [] [7] [(7, (.bool (decide ((p0.length : Int) > 3))))] [] (fun fb => by kernel_rfl) rfl trivial ?_
 refine WL.done rfl ?_
 refine WX.next ?_
 rcases br_some hf with ⟨h207, hf⟩ | ⟨h207, hf⟩
 ·refine WC.condT2 (fun fb => by kernel_rfl) h207 ?_
  refine WC.seq ?_
  refine WC.region ?_
  refine seg 1 [] [2] [(2, (iv 2))] [] (fun fb => by kernel_rfl) rfl trivial ?_
  refine WL.done rfl ?_
  refine WX.next ?_
  refine WC.ret ?_
  injection hf with hf
  subst hf
  exact WX.blockR (WX.thenR (WX.ret_ [] (iv 2) [] (fun fb => by kernel_rfl) trivial ⟨_, rfl, rfl, hS205.keep⟩))
 refine WC.condF2 (fun fb => by kernel_rfl) h207 ?_
 refine WC.skip ?_
 refine WX.blockN (WX.next ?_)
 refine WC.seq ?_
 refine WC.region ?_
 refine seg 1 [] [2] [(2, (iv 0))] [] (fun fb => by kernel_rfl) rfl trivial ?_
 refine WL.done rfl ?_
 refine WX.next ?_
 refine WC.ret ?_
 injection hf with hf
 subst hf
 exact WX.ret_ [] (iv 0) [] (fun fb => by kernel_rfl) trivial ⟨_, rfl, rfl, hS205.keep⟩
theorem decide_sides_calls (p0 : List Tile) (A_p0 : Option Addr) (c_p0 : Nat) (r : Unit) (w : World) (hR0 : RO NoS w (rowR enc_Tile A_p0 c_p0 p0)) (hf : decide_sides p0 = some r) :
  CallsR Try.prog 44 #[(.slice A_p0 p0.length c_p0)] w (fun v w' => ∃ (g1_ : Nat), v = (.func (.func 61) #[] #[(.pointer (some ⟨g1_, 0, none⟩))]) ∧ St NoS w w' [] [blk g1_ (.cells #[(.slice A_p0 p0.length c_p0)] 22 (0, 0))]) := by
 have hS : St NoS w w [rowR enc_Tile A_p0 c_p0 p0] [] := St.init (ro_cons hR0 (ro_nil _ _))
 refine enter 4 Try.func44 rfl Try.ntmps44 rfl ?_
 unfold decide_sides at hf
 refine WC.seq ?_
 refine WC.region ?_
 refine WL.new hS 1 [] (fun g => (.pointer (some ⟨g, 0, none⟩))) (.cells #[(.slice A_p0 p0.length c_p0)] 22 (0, 0)) [] (fun fb g => by kernel_rfl) trivial (fun g219 w220 hS221 => ?_)
 refine ⟨trivial, ?_⟩
 refine seg 2 [] [1] [(1, (pt g219))] [] (fun fb => by kernel_rfl) rfl trivial ?_
 refine WL.done rfl ?_
 refine WX.next ?_
 refine WC.seq ?_
 refine WC.region ?_
 refine seg 2 [] [2] [(2, (.func (.func 61) #[] #[(pt g219)]))] [] (fun fb => by kernel_rfl) rfl trivial ?_
 refine WL.done rfl ?_
 refine WX.next ?_
 refine WC.ret ?_
 injection hf with hf
 subst hf
 exact WX.ret_ [] (.func (.func 61) #[] #[(pt g219)]) [] (fun fb => by kernel_rfl) trivial ⟨_, rfl, g219, rfl, (hS221.sub [0] (by decide)).noR⟩
theorem rows_Few_calls (k : Nat) (p0 : List Tile) (p1 : Int) (A_p0 : Option Addr) (c_p0 : Nat) (r : Bool) (w : World) (hR0 : RO NoS w (rowR enc_Tile A_p0 c_p0 p0)) (hf : rows_Few k p0 p1 = some r) :
  CallsR Try.prog 45 #[(.slice A_p0 p0.length c_p0), (iv p1)] w (fun v w' => v = (.bool r) ∧ Keeps NoS w w') := by
 have hS : St NoS w w [rowR enc_Tile A_p0 c_p0 p0] [] := St.init (ro_cons hR0 (ro_nil _ _))
 refine enter 17 Try.func45 rfl Try.ntmps45 rfl ?_
 unfold rows_Few at hf
 refine WC.seq ?_
 refine WC.region ?_
 refine seg 1 [] [0, 1] [(0, (.slice A_p0 p0.length c_p0)), (1, (iv p1))] [] (fun fb => by kernel_rfl) rfl trivial ?_
 refine WL.done rfl ?_
 refine WX.next ?_
 refine WC.seq ?_
 refine WC.region ?_
 refine seg 1 [] [0, 1, 5] [(0, (.slice A_p0 p0.length c_p0)), (1, (iv p1)), (5, (iv 1))] [] (fun fb => by kernel_rfl) rfl trivial ?_
 refine WL.done rfl ?_
 refine WX.next ?_
 refine WC.seq ?_
 refine WC.seq ?_
 refine WC.region ?_
 refine seg 2 [] [0, 5, 6, 7] [(0, (.slice A_p0 p0.length c_p0)), (5, (iv 1)), (6, (iv p1)), (7, (iv 0))] [] (fun fb => by kernel_rfl) rfl trivial ?_
 refine WL.done rfl ?_
 refine WX.next ?_
 obtain ⟨x294, hx295, hf⟩ := bind_some hf
 refine WC.cutN (T := Unit) (fun t => []) (fun t w1 => St NoS w w1 [rowR enc_Tile A_p0 c_p0 p0] [] ∧ x294 = .inr t) (fun Kx294 => ?_) ?_
 ·
  refine WC.block ?_
  refine WC.loop (T := Int × Int) (fun t => [(0, (.slice A_p0 p0.length c_p0)), (5, (iv t.1)), (6, (iv p1)), (7, (iv t.2))]) (fun n t w1 => St NoS w w1 [rowR enc_Tile A_p0 c_p0 p0] [] ∧ rows_Few.l0 n t.1 t.2 p0 p1 = some x294) k (1, 0) [0, 5, 6, 7] rfl ⟨(hS.subR [0]).sub [] (by decide), hx295⟩ ?_
  rintro k296 ⟨x292, x293⟩ w297 ⟨hS298, hl299⟩
  cases k296 with
  | zero => rw [rows_Few.l0] at hl299; cases hl299
  | succ k296 =>
   rw [rows_Few.l0] at hl299
   refine WC.seq ?_
   refine WC.region ?_
   refine seg 1 [] [0, 5, 6, 7, 8] [(0, (.slice A_p0 p0.length c_p0)), (5, (iv x292)), (6, (iv p1)), (7, (iv x293)), (8, (.bool (decide (x293 < p1))))] [] (fun fb => by kernel_rfl) rfl trivial ?_
   refine WL.done rfl ?_
   refine WX.next ?_
   refine WC.seq ?_
   rcases br_some hl299 with ⟨h300, hl299⟩ | ⟨h300, hl299⟩
   ·refine WC.condT2 (fun fb => by kernel_rfl) h300 ?_
    refine WC.skip ?_
    refine WX.next ?_
    refine WC.seq ?_
    refine WC.block ?_
    refine WC.seq ?_
    refine WC.region ?_
    refine seg 6 [] [0, 5, 6, 7] [(0, (.slice A_p0 p0.length c_p0)), (5, (iv (w64 (x292 * (maxI (p0.length : Int) 1))))), (6, (iv p1)), (7, (iv x293))] [] (fun fb => by kernel_rfl) rfl trivial ?_
    refine WL.done rfl ?_
    refine WX.next ?_
    refine WC.seq ?_
    refine WC.region ?_
    refine seg 2 [] [0, 5, 6, 7, 15] [(0, (.slice A_p0 p0.length c_p0)), (5, (iv (w64 (x292 * (maxI (p0.length : Int) 1))))), (6, (iv p1)), (7, (iv x293)), (15, (.bool (decide (w64 (x292 * (maxI (p0.length : Int) 1)) > 5000))))] [] (fun fb => by kernel_rfl) rfl trivial ?_
    refine WL.done rfl ?_
    refine WX.next ?_
    rcases br_some hl299 with ⟨h301, hl299⟩ | ⟨h301, hl299⟩
    ·refine WC.condT2 (fun fb => by kernel_rfl) h301 ?_
     refine WC.seq ?_
     refine WC.region ?_
     refine seg 1 [] [4] [(4, (.bool false))] [] (fun fb => by kernel_rfl) rfl trivial ?_
     refine WL.done rfl ?_
     refine WX.next ?_
     refine WC.ret ?_
     injection hl299 with hl299
     subst hl299
     injection hf with hf
     subst hf
     exact WX.blockR (WX.thenR (WX.thenR (WX.blockR (WX.thenR (WX.ret_ [] (.bool false) [] (fun fb => by kernel_rfl) trivial ⟨_, rfl, rfl, hS298.keep⟩)))))
    refine WC.condF2 (fun fb => by kernel_rfl) h301 ?_
    refine WC.skip ?_
    refine WX.blockN (WX.next ?_)
    refine WC.region ?_
    refine seg 2 [] [0, 5, 6, 7] [(0, (.slice A_p0 p0.length c_p0)), (5, (iv (w64 (x292 * (maxI (p0.length : Int) 1))))), (6, (iv p1)), (7, (iv (w64 (x293 + 1))))] [] (fun fb => by kernel_rfl) rfl trivial ?_
    refine WL.done rfl ?_
    exact WX.again k296 (Nat.lt_succ_self _) (w64 (x292 * (maxI (p0.length : Int) 1)), w64 (x293 + 1)) [0, 5, 6, 7] rfl ⟨(hS298.subR [0]).sub [] (by decide), hl299⟩
   refine WC.condF2 (fun fb => by kernel_rfl) h300 ?_
   refine WC.exit ?_
   injection hl299 with hl299
   exact WX.thenX (WX.thenX (WX.blockHere (WX.to Kx294 () [] rfl ⟨(hS298.subR [0]).sub [] (by decide), hl299.symm⟩)))
 rintro y305 w302 ⟨hS303, hq304⟩
 subst hq304
 have hf := sum_inr hf
 refine WX.next ?_
 refine WC.seq ?_
 refine WC.region ?_
 refine seg 1 [] [4] [(4, (.bool true))] [] (fun fb => by kernel_rfl) rfl trivial ?_
 refine WL.done rfl ?_
 refine WX.next ?_
 refine WC.ret ?_
 injection hf with hf
 subst hf
 exact WX.ret_ [] (.bool true) [] (fun fb => by kernel_rfl) trivial ⟨_, rfl, rfl, hS303.keep⟩
theorem square_check_calls (k : Nat) (p0 : List Tile) (p1 : Int) (A_p0 : Option Addr) (c_p0 : Nat) (r : Int) (w : World) (hR0 : RO NoS w (rowR enc_Tile A_p0 c_p0 p0)) (hf : square_check k p0 p1 = some r) :
  CallsR Try.prog 41 #[(.slice A_p0 p0.length c_p0), (iv p1)] w (fun v w' => v = (iv r) ∧ Keeps NoS w w') := by
 have hS : St NoS w w [rowR enc_Tile A_p0 c_p0 p0] [] := St.init (ro_cons hR0 (ro_nil _ _))
 refine enter 21 Try.func41 rfl Try.ntmps41 rfl ?_
 unfold square_check at hf
 refine WC.seq ?_
 refine WC.region ?_
 refine seg 1 [] [0, 1] [(0, (.slice A_p0 p0.length c_p0)), (1, (iv p1))] [] (fun fb => by kernel_rfl) rfl trivial ?_
 refine WL.done rfl ?_
 refine WX.next ?_
 refine WC.seq ?_
 refine WC.block ?_
 refine WC.seq ?_
 refine WC.region ?_
 refine seg 1 [] [0, 1, 6] [(0, (.slice A_p0 p0.length c_p0)), (1, (iv p1)), (6, (.slice A_p0 p0.length c_p0))] [] (fun fb => by kernel_rfl) rfl trivial ?_
 obtain ⟨t277, ht278, hf⟩ := bind_some hf
 refine WL.call (some 7) 38 #[(.slice A_p0 p0.length c_p0)] (fun fb => by kernel_rfl) (tile_Valid_calls _ p0 A_p0 c_p0 t277 _ (hS.rd 0) ht278) (fun v w279 hR280 => ?_)
 obtain ⟨rfl, hk_⟩ := hR280
 have hS281 := hS.keepN hk_
 refine ⟨trivial, ?_⟩
 refine seg 4 [] [0, 1, 5] [(0, (.slice A_p0 p0.length c_p0)), (1, (iv p1)), (5, (.bool (!t277)))] [] (fun fb => by kernel_rfl) rfl trivial ?_
 refine WL.done rfl ?_
 refine WX.next ?_
 rcases br_some hf with ⟨h282, hf⟩ | ⟨h282, hf⟩
 ·refine WC.condT2 (fun fb => by kernel_rfl) h282 ?_
  refine WC.seq ?_
  refine WC.region ?_
  refine seg 1 [] [4] [(4, (iv 1))] [] (fun fb => by kernel_rfl) rfl trivial ?_
  refine WL.done rfl ?_
  refine WX.next ?_
  refine WC.ret ?_
  injection hf with hf
  subst hf
  exact WX.blockR (WX.thenR (WX.ret_ [] (iv 1) [] (fun fb => by kernel_rfl) trivial ⟨_, rfl, rfl, hS281.keep⟩))
 refine WC.condF2 (fun fb => by kernel_rfl) h282 ?_
 refine WC.seq ?_
 refine WC.region ?_
 refine seg 3 [] [0, 1, 12] [(0, (.slice A_p0 p0.length c_p0)), (1, (iv p1)), (12, (.bool (decide (p1 < 1))))] [] (fun fb => by kernel_rfl) rfl trivial ?_
 refine WL.cutV (T := Bool) 6 (fun t => [(15, (.bool t)), (0, (.slice A_p0 p0.length c_p0)), (1, (iv p1))]) (fun t => ((decide (p1 < 1)) || (decide (p1 > 8))) = t) (fun K => ?_) ?_
 ·
  rcases Bool.eq_false_or_eq_true (decide (p1 < 1)) with h283 | h283
  ·
   refine WL.setB 12 h283 rfl ?_
   refine seg 6 [] [0, 1, 15] [(0, (.slice A_p0 p0.length c_p0)), (1, (iv p1)), (15, (.bool true))] [] (fun fb => by kernel_rfl) rfl trivial ?_
   exact WL.toV K true [15, 0, 1] rfl (by first | (rw [h283]; done) | (rw [h283]; rfl))
  refine WL.setB 12 h283 rfl ?_
  refine seg 6 [] [0, 1, 15] [(0, (.slice A_p0 p0.length c_p0)), (1, (iv p1)), (15, (.bool (decide (p1 > 8))))] [] (fun fb => by kernel_rfl) rfl trivial ?_
  exact WL.toV K (decide (p1 > 8)) [15, 0, 1] rfl (by first | (rw [h283]; done) | (rw [h283]; rfl))
 rintro b284 rfl
 refine seg 7 [] [0, 1, 9] [(0, (.slice A_p0 p0.length c_p0)), (1, (iv p1)), (9, (.bool ((decide (p1 < 1)) || (decide (p1 > 8)))))] [] (fun fb => by kernel_rfl) rfl trivial ?_
 refine WL.done rfl ?_
 refine WX.next ?_
 rcases br_some hf with ⟨h285, hf⟩ | ⟨h285, hf⟩
 ·refine WC.condT2 (fun fb => by kernel_rfl) h285 ?_
  refine WC.seq ?_
  refine WC.region ?_
  refine seg 1 [] [4] [(4, (iv 2))] [] (fun fb => by kernel_rfl) rfl trivial ?_
  refine WL.done rfl ?_
  refine WX.next ?_
  refine WC.ret ?_
  injection hf with hf
  subst hf
  exact WX.blockR (WX.thenR (WX.ret_ [] (iv 2) [] (fun fb => by kernel_rfl) trivial ⟨_, rfl, rfl, hS281.keep⟩))
 refine WC.condF2 (fun fb => by kernel_rfl) h285 ?_
 refine WC.seq ?_
 refine WC.region ?_
 refine seg 2 [] [17, 18] [(17, (.slice A_p0 p0.length c_p0)), (18, (iv p1))] [] (fun fb => by kernel_rfl) rfl trivial ?_
 obtain ⟨t307, ht308, hf⟩ := bind_some hf
 refine WL.call (some 19) 45 #[(.slice A_p0 p0.length c_p0), (iv p1)] (fun fb => by kernel_rfl) (rows_Few_calls _ p0 p1 A_p0 c_p0 t307 _ (hS281.rd 0) ht308) (fun v w309 hR310 => ?_)
 obtain ⟨rfl, hk_⟩ := hR310
 have hS311 := hS281.keepN hk_
 refine ⟨trivial, ?_⟩
 refine seg 5 [] [16] [(16, (.bool (!t307)))] [] (fun fb => by kernel_rfl) rfl trivial ?_
 refine WL.done rfl ?_
 refine WX.next ?_
 rcases br_some hf with ⟨h312, hf⟩ | ⟨h312, hf⟩
 ·refine WC.condT2 (fun fb => by kernel_rfl) h312 ?_
  refine WC.seq ?_
  refine WC.region ?_
  refine seg 1 [] [4] [(4, (iv 4))] [] (fun fb => by kernel_rfl) rfl trivial ?_
  refine WL.done rfl ?_
  refine WX.next ?_
  refine WC.ret ?_
  injection hf with hf
  subst hf
  exact WX.blockR (WX.thenR (WX.ret_ [] (iv 4) [] (fun fb => by kernel_rfl) trivial ⟨_, rfl, rfl, hS311.keep⟩))
 refine WC.condF2 (fun fb => by kernel_rfl) h312 ?_
 refine WC.skip ?_
 refine WX.blockN (WX.next ?_)
 refine WC.seq ?_
 refine WC.region ?_
 refine seg 1 [] [4] [(4, (iv 0))] [] (fun fb => by kernel_rfl) rfl trivial ?_
 refine WL.done rfl ?_
 refine WX.next ?_
 refine WC.ret ?_
 injection hf with hf
 subst hf
 exact WX.ret_ [] (iv 0) [] (fun fb => by kernel_rfl) trivial ⟨_, rfl, rfl, hS311.keep⟩
theorem rows_rowOf_calls (k : Nat) (p0 : List Tile) (p1 : List Int) (A_p0 : Option Addr) (c_p0 : Nat) (A_p1 : Option Addr) (c_p1 : Nat) (r : Row) (w : World) (hR0 : RO NoS w (rowR enc_Tile A_p0 c_p0 p0)) (hR1 : RO NoS w (rowR encInt A_p1 c_p1 p1)) (hf : rows_rowOf k p0 p1 = some r) :
  CallsR Try.prog 83 #[(.slice A_p0 p0.length c_p0), (.slice A_p1 p1.length c_p1)] w (fun v w' => ∃ (A1_ : Option Addr), ∃ (c1_ : Nat), v = (.agg #[(.slice A1_ r.Cells.length c1_), (iv r.South.e0), (iv r.South.e1), (iv r.South.e2), (iv r.South.e3), (iv r.South.e4), (iv r.South.e5), (iv r.South.e6), (iv r.South.e7), (iv r.North.e0), (iv r.North.e1), (iv r.North.e2), (iv r.North.e3), (iv r.North.e4), (iv r.North.e5), (iv r.North.e6), (iv r.North.e7), (iv r.West), (iv r.East)]) ∧ St NoS w w' [] [rowO 3 encInt A1_ c1_ r.Cells]) := by
 have hS : St NoS w w [rowR enc_Tile A_p0 c_p0 p0, rowR encInt A_p1 c_p1 p1] [] := St.init (ro_cons hR0 (ro_cons hR1 (ro_nil _ _)))
 refine enter 55 Try.func83 rfl Try.ntmps83 rfl ?_
 unfold rows_rowOf at hf
 refine WC.seq ?_
 refine WC.region ?_
 refine WL.new hS 4 [] (fun g => (.pointer (some ⟨g, 0, none⟩))) (.cells #[(.slice none 0 0), (iv 0), (iv 0), (iv 0), (iv 0), (iv 0), (iv 0), (iv 0), (iv 0), (iv 0), (iv 0), (iv 0), (iv 0), (iv 0), (iv 0), (iv 0), (iv 0), (iv 0), (iv 0)] 88 (0, 0)) [] (fun fb g => by kernel_rfl) trivial (fun g431 w432 hS433 => ?_)
 refine ⟨trivial, ?_⟩
 refine WL.done rfl ?_
 refine WX.next ?_
 refine WC.seq ?_
 refine WC.region ?_
 refine seg 1 [] [0, 1, 4, 8] [(0, (.slice A_p0 p0.length c_p0)), (1, (.slice A_p1 p1.length c_p1)), (4, (pt g431)), (8, (.slice A_p1 p1.length c_p1))] [] (fun fb => by kernel_rfl) rfl trivial ?_
 have hS435 := hS433.nilrow 3 encInt
 obtain ⟨h436, hf⟩ := as_some hf
 refine WL.append hS435 0 (d := 9) (tS := 36) (z := (iv 0)) (bytes := 8) (c2 := c_p1) rfl (fun fb => by kernel_rfl) (hS435.rd 1).1 (by kernel_rfl) (by kernel_rfl) rfl (by decide) h436 (by decide) [1] (by decide) (by decide) (fun A437 c438 w439 hS440 => ?_)
 refine ⟨trivial, ?_⟩
 refine seg 3 [] [0, 1, 4, 10] [(0, (.slice A_p0 p0.length c_p0)), (1, (.slice A_p1 p1.length c_p1)), (4, (pt g431)), (10, (.agg #[(.slice A437 (([] : List Int) ++ p1).length c438), (iv 0), (iv 0), (iv 0), (iv 0), (iv 0), (iv 0), (iv 0), (iv 0), (iv 0), (iv 0), (iv 0), (iv 0), (iv 0), (iv 0), (iv 0), (iv 0), (iv 0), (iv 0)]))] [] (fun fb => by kernel_rfl) rfl trivial ?_
 refine WL.new hS440 5 [] (fun g => (.pointer (some ⟨g, 0, none⟩))) (.cells #[(.slice none 0 0), (iv 0), (iv 0), (iv 0), (iv 0), (iv 0), (iv 0), (iv 0), (iv 0), (iv 0), (iv 0), (iv 0), (iv 0), (iv 0), (iv 0), (iv 0), (iv 0), (iv 0), (iv 0)] 88 (0, 0)) [] (fun fb g => by kernel_rfl) trivial (fun g441 w442 hS443 => ?_)
 refine ⟨trivial, ?_⟩
 refine WL.store hS443 0 rfl [(0, (.slice A437 (([] : List Int) ++ p1).length c438)), (1, (iv 0)), (2, (iv 0)), (3, (iv 0)), (4, (iv 0)), (5, (iv 0)), (6, (iv 0)), (7, (iv 0)), (8, (iv 0)), (9, (iv 0)), (10, (iv 0)), (11, (iv 0)), (12, (iv 0)), (13, (iv 0)), (14, (iv 0)), (15, (iv 0)), (16, (iv 0)), (17, (iv 0)), (18, (iv 0))] #[(.slice A437 (([] : List Int) ++ p1).length c438), (iv 0), (iv 0), (iv 0), (iv 0), (iv 0), (iv 0), (iv 0), (iv 0), (iv 0), (iv 0), (iv 0), (iv 0), (iv 0), (iv 0), (iv 0), (iv 0), (iv 0), (iv 0)] (fun fb => by kernel_rfl) (by kernel_rfl) (by kernel_rfl) [1, 2] (by decide) (by decide) (fun w445 hS446 => ?_)
 refine ⟨trivial, ?_⟩
 refine WL.done rfl ?_
 refine WX.next ?_
 refine WC.seq ?_
 refine WC.seq ?_
 refine WC.region ?_
 refine seg 3 [] [0, 1, 4, 5, 11, 12, 13] [(0, (.slice A_p0 p0.length c_p0)), (1, (.slice A_p1 p1.length c_p1)), (4, (pt g431)), (5, (pt g441)), (11, (.slice A_p1 p1.length c_p1)), (12, (iv (p1.length : Int))), (13, (iv 0))] [] (fun fb => by kernel_rfl) rfl trivial ?_
 refine WL.done rfl ?_
 refine WX.next ?_
 obtain ⟨x525, hx526, hf⟩ := bind_some hf
 refine WC.cutN (T := A8_Int × A8_Int) (fun t => [(0, (.slice A_p0 p0.length c_p0)), (1, (.slice A_p1 p1.length c_p1)), (4, (pt g431)), (5, (pt g441))]) (fun t w1 => St NoS w w1 [rowR enc_Tile A_p0 c_p0 p0, rowR encInt A_p1 c_p1 p1] [blk g431 (.cells #[(.slice none 0 0), (iv 0), (iv 0), (iv 0), (iv 0), (iv 0), (iv 0), (iv 0), (iv 0), (iv 0), (iv 0), (iv 0), (iv 0), (iv 0), (iv 0), (iv 0), (iv 0), (iv 0), (iv 0)] 88 (0, 0)), blk g441 (.cells #[(.slice A437 (([] : List Int) ++ p1).length c438), (iv t.1.e0), (iv t.1.e1), (iv t.1.e2), (iv t.1.e3), (iv t.1.e4), (iv t.1.e5), (iv t.1.e6), (iv t.1.e7), (iv t.2.e0), (iv t.2.e1), (iv t.2.e2), (iv t.2.e3), (iv t.2.e4), (iv t.2.e5), (iv t.2.e6), (iv t.2.e7), (iv 0), (iv 0)] 88 (0, 0)), rowO 3 encInt A437 c438 (([] : List Int) ++ p1)] ∧ x525 = t) (fun Kx525 => ?_) ?_
 ·
  refine WC.block ?_
  refine WC.loop (T := A8_Int × A8_Int × Int) (fun t => [(0, (.slice A_p0 p0.length c_p0)), (1, (.slice A_p1 p1.length c_p1)), (4, (pt g431)), (5, (pt g441)), (11, (.slice A_p1 p1.length c_p1)), (12, (iv (p1.length : Int))), (13, (iv t.2.2))]) (fun n t w1 => St NoS w w1 [rowR enc_Tile A_p0 c_p0 p0, rowR encInt A_p1 c_p1 p1] [blk g431 (.cells #[(.slice none 0 0), (iv 0), (iv 0), (iv 0), (iv 0), (iv 0), (iv 0), (iv 0), (iv 0), (iv 0), (iv 0), (iv 0), (iv 0), (iv 0), (iv 0), (iv 0), (iv 0), (iv 0), (iv 0)] 88 (0, 0)), blk g441 (.cells #[(.slice A437 (([] : List Int) ++ p1).length c438), (iv t.1.e0), (iv t.1.e1), (iv t.1.e2), (iv t.1.e3), (iv t.1.e4), (iv t.1.e5), (iv t.1.e6), (iv t.1.e7), (iv t.2.1.e0), (iv t.2.1.e1), (iv t.2.1.e2), (iv t.2.1.e3), (iv t.2.1.e4), (iv t.2.1.e5), (iv t.2.1.e6), (iv t.2.1.e7), (iv 0), (iv 0)] 88 (0, 0)), rowO 3 encInt A437 c438 (([] : List Int) ++ p1)] ∧ rows_rowOf.l0 n t.1 t.2.1 t.2.2 p0 p1 = some x525) k ((A8_Int.mk 0 0 0 0 0 0 0 0), (A8_Int.mk 0 0 0 0 0 0 0 0), 0) [0, 1, 4, 5, 11, 12, 13] rfl ⟨(hS446.subR [0, 1]).sub [2, 0, 1] (by decide), hx526⟩ ?_
  rintro k527 ⟨a520, a521, x522⟩ w528 ⟨hS529, hl530⟩
  cases k527 with
  | zero => rw [rows_rowOf.l0] at hl530; cases hl530
  | succ k527 =>
   rw [rows_rowOf.l0] at hl530
   refine WC.seq ?_
   refine WC.region ?_
   refine seg 1 [] [0, 1, 4, 5, 11, 12, 13, 14] [(0, (.slice A_p0 p0.length c_p0)), (1, (.slice A_p1 p1.length c_p1)), (4, (pt g431)), (5, (pt g441)), (11, (.slice A_p1 p1.length c_p1)), (12, (iv (p1.length : Int))), (13, (iv x522)), (14, (.bool (decide (x522 < (p1.length : Int)))))] [] (fun fb => by kernel_rfl) rfl trivial ?_
   refine WL.done rfl ?_
   refine WX.next ?_
   refine WC.seq ?_
   rcases br_some hl530 with ⟨h531, hl530⟩ | ⟨h531, hl530⟩
   ·refine WC.condT2 (fun fb => by kernel_rfl) h531 ?_
    refine WC.skip ?_
    refine WX.next ?_
    refine WC.seq ?_
    refine WC.block ?_
    refine WC.seq ?_
    refine WC.region ?_
    refine seg 1 [] [0, 1, 4, 5, 11, 12, 13, 15] [(0, (.slice A_p0 p0.length c_p0)), (1, (.slice A_p1 p1.length c_p1)), (4, (pt g431)), (5, (pt g441)), (11, (.slice A_p1 p1.length c_p1)), (12, (iv (p1.length : Int))), (13, (iv x522)), (15, (iv x522))] [] (fun fb => by kernel_rfl) rfl trivial ?_
    obtain ⟨h532, hl530⟩ := as_some hl530
    refine seg 5 [.v (iv (rdD p1 x522 0))] [0, 1, 4, 5, 6, 7, 11, 12, 13] [(0, (.slice A_p0 p0.length c_p0)), (1, (.slice A_p1 p1.length c_p1)), (4, (pt g431)), (5, (pt g441)), (6, (iv x522)), (7, (iv (rdD p1 x522 0))), (11, (.slice A_p1 p1.length c_p1)), (12, (iv (p1.length : Int))), (13, (iv x522))] [.idx A_p1 x522 p1.length, .cell ((adr A_p1).add ((x522).toNat * 1)) (iv (rdD p1 x522 0))] (fun fb => by kernel_rfl) rfl ⟨rowR.adr (hS529.rd 1).1 h532.1 h532.2, rowR.cell (hS529.rd 1).1 0 h532.1 h532.2 0 rfl, trivial⟩ ?_
    refine WL.done rfl ?_
    refine WX.next ?_
    obtain ⟨h547, hl530⟩ := as_some hl530
    obtain ⟨h548, hl530⟩ := as_some hl530
    refine WC.regionD ([(6, (((adr A_p0).add (((rdD p1 x522 0)).toNat * 4)).add 2), (iv ((rdD p0 (rdD p1 x522 0) z_Tile).S))), (11, ((adr A_p0).add (((rdD p1 x522 0)).toNat * 4)), (iv ((rdD p0 (rdD p1 x522 0) z_Tile).N)))], [0, 1, 2, 3, 4, 5, 6, 7, 8, 9, 10, 11, 12, 13, 15, 16], [[], [], [], [], [2, 3], [2, 3, 4], [2, 3, 4, 5], [], [], [7, 8], [7, 8, 9], [7, 8, 9, 10], [], [0, 2, 3, 4, 5, 6, 12], [0, 2, 3, 4, 5, 6, 12, 13], [], [0, 1, 2, 3, 4, 5, 6, 7, 8, 9, 10, 11, 12, 13, 14, 15], [0, 1, 2, 3, 4, 5, 6, 7, 8, 9, 10, 11, 12, 13, 14, 15, 16]]) [[0, 1, 2, 3, 4, 5, 6, 7, 8, 9, 10, 11, 12, 13, 15, 14, 16, 17]] (by kernel_rfl) (by kernel_rfl) (NoPanic.block (NoPanic.seq (NoPanic.seq (NoPanic.block (NoPanic.seq (NoPanic.body)))))) ?_
    have hS544 := hS529.drew
    revert hS544
    generalize World.drew w528 = w543
    intro hS544
    refine ⟨⟨rowR.cell (hS544.rd 0).1 z_Tile h547.1 h547.2 2 rfl, rowR.cell (hS544.rd 0).1 z_Tile h547.1 h547.2 0 rfl, trivial⟩, forallC ?_ (forallN)⟩
    refine segF 15 [.v (iv ((rdD p0 (rdD p1 x522 0) z_Tile).S)), .v (iv ((rdD p0 (rdD p1 x522 0) z_Tile).N))] [0, 1, 4, 5, 11, 12, 13, 19, 24, 29, 31, 32] [(0, (.slice A_p0 p0.length c_p0)), (1, (.slice A_p1 p1.length c_p1)), (4, (pt g431)), (5, (pt g441)), (11, (.slice A_p1 p1.length c_p1)), (12, (iv (p1.length : Int))), (13, (iv x522)), (19, (iv x522)), (24, (iv ((rdD p0 (rdD p1 x522 0) z_Tile).S))), (29, (iv ((rdD p0 (rdD p1 x522 0) z_Tile).N))), (31, (.pointer (some (flatA ⟨g441, 1, none⟩ (x522.toNat * 1))))), (32, (.pointer (some ⟨g441, 9, none⟩)))] [.idx A_p0 (rdD p1 x522 0) p0.length, .idx A_p0 (rdD p1 x522 0) p0.length, .idx (some ⟨0, 0, none⟩) x522 8] [0, 1] [(6, (((adr A_p0).add (((rdD p1 x522 0)).toNat * 4)).add 2), (iv ((rdD p0 (rdD p1 x522 0) z_Tile).S))), (11, ((adr A_p0).add (((rdD p1 x522 0)).toNat * 4)), (iv ((rdD p0 (rdD p1 x522 0) z_Tile).N)))] (fun fb => by kernel_rfl) rfl ⟨rowR.adr (hS544.rd 0).1 h547.1 h547.2, rowR.adr (hS544.rd 0).1 h547.1 h547.2, ⟨h548.1, h548.2, rfl⟩, trivial⟩ rfl ?_
    have h551 := (cases8 (Q := fun z_ => (([(1 + z_.toNat * 1, (iv ((rdD p0 (rdD p1 x522 0) z_Tile).S)))] : List (Nat × Value)).all fun p_ => Nat.blt p_.1 (#[(.slice A437 (([] : List Int) ++ p1).length c438), (iv a520.e0), (iv a520.e1), (iv a520.e2), (iv a520.e3), (iv a520.e4), (iv a520.e5), (iv a520.e6), (iv a520.e7), (iv a521.e0), (iv a521.e1), (iv a521.e2), (iv a521.e3), (iv a521.e4), (iv a521.e5), (iv a521.e6), (iv a521.e7), (iv 0), (iv 0)] : Array Value).size) = true) h548 (by kernel_rfl) (by kernel_rfl) (by kernel_rfl) (by kernel_rfl) (by kernel_rfl) (by kernel_rfl) (by kernel_rfl) (by kernel_rfl))
    have h552 := (cases8 (Q := fun z_ => wrc (#[(.slice A437 (([] : List Int) ++ p1).length c438), (iv a520.e0), (iv a520.e1), (iv a520.e2), (iv a520.e3), (iv a520.e4), (iv a520.e5), (iv a520.e6), (iv a520.e7), (iv a521.e0), (iv a521.e1), (iv a521.e2), (iv a521.e3), (iv a521.e4), (iv a521.e5), (iv a521.e6), (iv a521.e7), (iv 0), (iv 0)] : Array Value) [(1 + z_.toNat * 1, (iv ((rdD p0 (rdD p1 x522 0) z_Tile).S)))] = (#[(.slice A437 (([] : List Int) ++ p1).length c438), (iv ((A8_Int.set a520 z_ ((rdD p0 (rdD p1 x522 0) z_Tile).S)).e0)), (iv ((A8_Int.set a520 z_ ((rdD p0 (rdD p1 x522 0) z_Tile).S)).e1)), (iv ((A8_Int.set a520 z_ ((rdD p0 (rdD p1 x522 0) z_Tile).S)).e2)), (iv ((A8_Int.set a520 z_ ((rdD p0 (rdD p1 x522 0) z_Tile).S)).e3)), (iv ((A8_Int.set a520 z_ ((rdD p0 (rdD p1 x522 0) z_Tile).S)).e4)), (iv ((A8_Int.set a520 z_ ((rdD p0 (rdD p1 x522 0) z_Tile).S)).e5)), (iv ((A8_Int.set a520 z_ ((rdD p0 (rdD p1 x522 0) z_Tile).S)).e6)), (iv ((A8_Int.set a520 z_ ((rdD p0 (rdD p1 x522 0) z_Tile).S)).e7)), (iv a521.e0), (iv a521.e1), (iv a521.e2), (iv a521.e3), (iv a521.e4), (iv a521.e5), (iv a521.e6), (iv a521.e7), (iv 0), (iv 0)] : Array Value)) h548 (by kernel_rfl) (by kernel_rfl) (by kernel_rfl) (by kernel_rfl) (by kernel_rfl) (by kernel_rfl) (by kernel_rfl) (by kernel_rfl))
    refine WL.store hS544 1 rfl [(1 + x522.toNat * 1, (iv ((rdD p0 (rdD p1 x522 0) z_Tile).S)))] #[(.slice A437 (([] : List Int) ++ p1).length c438), (iv ((A8_Int.set a520 x522 ((rdD p0 (rdD p1 x522 0) z_Tile).S)).e0)), (iv ((A8_Int.set a520 x522 ((rdD p0 (rdD p1 x522 0) z_Tile).S)).e1)), (iv ((A8_Int.set a520 x522 ((rdD p0 (rdD p1 x522 0) z_Tile).S)).e2)), (iv ((A8_Int.set a520 x522 ((rdD p0 (rdD p1 x522 0) z_Tile).S)).e3)), (iv ((A8_Int.set a520 x522 ((rdD p0 (rdD p1 x522 0) z_Tile).S)).e4)), (iv ((A8_Int.set a520 x522 ((rdD p0 (rdD p1 x522 0) z_Tile).S)).e5)), (iv ((A8_Int.set a520 x522 ((rdD p0 (rdD p1 x522 0) z_Tile).S)).e6)), (iv ((A8_Int.set a520 x522 ((rdD p0 (rdD p1 x522 0) z_Tile).S)).e7)), (iv a521.e0), (iv a521.e1), (iv a521.e2), (iv a521.e3), (iv a521.e4), (iv a521.e5), (iv a521.e6), (iv a521.e7), (iv 0), (iv 0)] (fun fb => by kernel_rfl) h551 h552 [0, 2] (by decide) (by decide) (fun w549 hS550 => ?_)
    refine ⟨⟨rowR.cell (hS550.rd 0).1 z_Tile h547.1 h547.2 0 rfl, trivial⟩, ?_⟩
    refine seg 17 [] [0, 1, 4, 5, 11, 12, 13, 29, 33] [(0, (.slice A_p0 p0.length c_p0)), (1, (.slice A_p1 p1.length c_p1)), (4, (pt g431)), (5, (pt g441)), (11, (.slice A_p1 p1.length c_p1)), (12, (iv (p1.length : Int))), (13, (iv x522)), (29, (iv ((rdD p0 (rdD p1 x522 0) z_Tile).N))), (33, (.pointer (some (flatA ⟨g441, 9, none⟩ (x522.toNat * 1)))))] [.idx (some ⟨0, 0, none⟩) x522 8] (fun fb => by kernel_rfl) rfl ⟨⟨h548.1, h548.2, rfl⟩, trivial⟩ ?_
    have h555 := (cases8 (Q := fun z_ => (([(9 + z_.toNat * 1, (iv ((rdD p0 (rdD p1 x522 0) z_Tile).N)))] : List (Nat × Value)).all fun p_ => Nat.blt p_.1 (#[(.slice A437 (([] : List Int) ++ p1).length c438), (iv ((A8_Int.set a520 x522 ((rdD p0 (rdD p1 x522 0) z_Tile).S)).e0)), (iv ((A8_Int.set a520 x522 ((rdD p0 (rdD p1 x522 0) z_Tile).S)).e1)), (iv ((A8_Int.set a520 x522 ((rdD p0 (rdD p1 x522 0) z_Tile).S)).e2)), (iv ((A8_Int.set a520 x522 ((rdD p0 (rdD p1 x522 0) z_Tile).S)).e3)), (iv ((A8_Int.set a520 x522 ((rdD p0 (rdD p1 x522 0) z_Tile).S)).e4)), (iv ((A8_Int.set a520 x522 ((rdD p0 (rdD p1 x522 0) z_Tile).S)).e5)), (iv ((A8_Int.set a520 x522 ((rdD p0 (rdD p1 x522 0) z_Tile).S)).e6)), (iv ((A8_Int.set a520 x522 ((rdD p0 (rdD p1 x522 0) z_Tile).S)).e7)), (iv a521.e0), (iv a521.e1), (iv a521.e2), (iv a521.e3), (iv a521.e4), (iv a521.e5), (iv a521.e6), (iv a521.e7), (iv 0), (iv 0)] : Array Value).size) = true) h548 (by kernel_rfl) (by kernel_rfl) (by kernel_rfl) (by kernel_rfl) (by kernel_rfl) (by kernel_rfl) (by kernel_rfl) (by kernel_rfl))
    have h556 := (cases8 (Q := fun z_ => wrc (#[(.slice A437 (([] : List Int) ++ p1).length c438), (iv ((A8_Int.set a520 x522 ((rdD p0 (rdD p1 x522 0) z_Tile).S)).e0)), (iv ((A8_Int.set a520 x522 ((rdD p0 (rdD p1 x522 0) z_Tile).S)).e1)), (iv ((A8_Int.set a520 x522 ((rdD p0 (rdD p1 x522 0) z_Tile).S)).e2)), (iv ((A8_Int.set a520 x522 ((rdD p0 (rdD p1 x522 0) z_Tile).S)).e3)), (iv ((A8_Int.set a520 x522 ((rdD p0 (rdD p1 x522 0) z_Tile).S)).e4)), (iv ((A8_Int.set a520 x522 ((rdD p0 (rdD p1 x522 0) z_Tile).S)).e5)), (iv ((A8_Int.set a520 x522 ((rdD p0 (rdD p1 x522 0) z_Tile).S)).e6)), (iv ((A8_Int.set a520 x522 ((rdD p0 (rdD p1 x522 0) z_Tile).S)).e7)), (iv a521.e0), (iv a521.e1), (iv a521.e2), (iv a521.e3), (iv a521.e4), (iv a521.e5), (iv a521.e6), (iv a521.e7), (iv 0), (iv 0)] : Array Value) [(9 + z_.toNat * 1, (iv ((rdD p0 (rdD p1 x522 0) z_Tile).N)))] = (#[(.slice A437 (([] : List Int) ++ p1).length c438), (iv ((A8_Int.set a520 x522 ((rdD p0 (rdD p1 x522 0) z_Tile).S)).e0)), (iv ((A8_Int.set a520 x522 ((rdD p0 (rdD p1 x522 0) z_Tile).S)).e1)), (iv ((A8_Int.set a520 x522 ((rdD p0 (rdD p1 x522 0) z_Tile).S)).e2)), (iv ((A8_Int.set a520 x522 ((rdD p0 (rdD p1 x522 0) z_Tile).S)).e3)), (iv ((A8_Int.set a520 x522 ((rdD p0 (rdD p1 x522 0) z_Tile).S)).e4)), (iv ((A8_Int.set a520 x522 ((rdD p0 (rdD p1 x522 0) z_Tile).S)).e5)), (iv ((A8_Int.set a520 x522 ((rdD p0 (rdD p1 x522 0) z_Tile).S)).e6)), (iv ((A8_Int.set a520 x522 ((rdD p0 (rdD p1 x522 0) z_Tile).S)).e7)), (iv ((A8_Int.set a521 z_ ((rdD p0 (rdD p1 x522 0) z_Tile).N)).e0)), (iv ((A8_Int.set a521 z_ ((rdD p0 (rdD p1 x522 0) z_Tile).N)).e1)), (iv ((A8_Int.set a521 z_ ((rdD p0 (rdD p1 x522 0) z_Tile).N)).e2)), (iv ((A8_Int.set a521 z_ ((rdD p0 (rdD p1 x522 0) z_Tile).N)).e3)), (iv ((A8_Int.set a521 z_ ((rdD p0 (rdD p1 x522 0) z_Tile).N)).e4)), (iv ((A8_Int.set a521 z_ ((rdD p0 (rdD p1 x522 0) z_Tile).N)).e5)), (iv ((A8_Int.set a521 z_ ((rdD p0 (rdD p1 x522 0) z_Tile).N)).e6)), (iv ((A8_Int.set a521 z_ ((rdD p0 (rdD p1 x522 0) z_Tile).N)).e7)), (iv 0), (iv 0)] : Array Value)) h548 (by kernel_rfl) (by kernel_rfl) (by kernel_rfl) (by kernel_rfl) (by kernel_rfl) (by kernel_rfl) (by kernel_rfl) (by kernel_rfl))
    refine WL.store hS550 0 rfl [(9 + x522.toNat * 1, (iv ((rdD p0 (rdD p1 x522 0) z_Tile).N)))] #[(.slice A437 (([] : List Int) ++ p1).length c438), (iv ((A8_Int.set a520 x522 ((rdD p0 (rdD p1 x522 0) z_Tile).S)).e0)), (iv ((A8_Int.set a520 x522 ((rdD p0 (rdD p1 x522 0) z_Tile).S)).e1)), (iv ((A8_Int.set a520 x522 ((rdD p0 (rdD p1 x522 0) z_Tile).S)).e2)), (iv ((A8_Int.set a520 x522 ((rdD p0 (rdD p1 x522 0) z_Tile).S)).e3)), (iv ((A8_Int.set a520 x522 ((rdD p0 (rdD p1 x522 0) z_Tile).S)).e4)), (iv ((A8_Int.set a520 x522 ((rdD p0 (rdD p1 x522 0) z_Tile).S)).e5)), (iv ((A8_Int.set a520 x522 ((rdD p0 (rdD p1 x522 0) z_Tile).S)).e6)), (iv ((A8_Int.set a520 x522 ((rdD p0 (rdD p1 x522 0) z_Tile).S)).e7)), (iv ((A8_Int.set a521 x522 ((rdD p0 (rdD p1 x522 0) z_Tile).N)).e0)), (iv ((A8_Int.set a521 x522 ((rdD p0 (rdD p1 x522 0) z_Tile).N)).e1)), (iv ((A8_Int.set a521 x522 ((rdD p0 (rdD p1 x522 0) z_Tile).N)).e2)), (iv ((A8_Int.set a521 x522 ((rdD p0 (rdD p1 x522 0) z_Tile).N)).e3)), (iv ((A8_Int.set a521 x522 ((rdD p0 (rdD p1 x522 0) z_Tile).N)).e4)), (iv ((A8_Int.set a521 x522 ((rdD p0 (rdD p1 x522 0) z_Tile).N)).e5)), (iv ((A8_Int.set a521 x522 ((rdD p0 (rdD p1 x522 0) z_Tile).N)).e6)), (iv ((A8_Int.set a521 x522 ((rdD p0 (rdD p1 x522 0) z_Tile).N)).e7)), (iv 0), (iv 0)] (fun fb => by kernel_rfl) h555 h556 [1, 2] (by decide) (by decide) (fun w553 hS554 => ?_)
    refine ⟨trivial, ?_⟩
    refine WL.done rfl ?_
    refine WX.blockN (WX.next ?_)
    refine WC.region ?_
    refine seg 2 [] [0, 1, 4, 5, 11, 12, 13] [(0, (.slice A_p0 p0.length c_p0)), (1, (.slice A_p1 p1.length c_p1)), (4, (pt g431)), (5, (pt g441)), (11, (.slice A_p1 p1.length c_p1)), (12, (iv (p1.length : Int))), (13, (iv (w64 (x522 + 1))))] [] (fun fb => by kernel_rfl) rfl trivial ?_
    refine WL.done rfl ?_
    exact WX.again k527 (Nat.lt_succ_self _) ((A8_Int.set a520 x522 ((rdD p0 (rdD p1 x522 0) z_Tile).S)), (A8_Int.set a521 x522 ((rdD p0 (rdD p1 x522 0) z_Tile).N)), w64 (x522 + 1)) [0, 1, 4, 5, 11, 12, 13] rfl ⟨(hS554.subR [0, 1]).sub [1, 0, 2] (by decide), hl530⟩
   refine WC.condF2 (fun fb => by kernel_rfl) h531 ?_
   refine WC.exit ?_
   injection hl530 with hl530
   exact WX.thenX (WX.thenX (WX.blockHere (WX.to Kx525 (a520, a521) [0, 1, 4, 5] rfl ⟨(hS529.subR [0, 1]).sub [0, 1, 2] (by decide), hl530.symm⟩)))
 rintro y560 w557 ⟨hS558, hq559⟩
 subst hq559
 refine WX.next ?_
 refine WC.seq ?_
 obtain ⟨h575, hf⟩ := as_some hf
 obtain ⟨h576, hf⟩ := as_some hf
 obtain ⟨h577, hf⟩ := as_some hf
 obtain ⟨h578, hf⟩ := as_some hf
 refine WC.regionD ([(3, ((adr A_p1).add (((0 : Int)).toNat * 1)), (iv (rdD p1 (0 : Int) 0))), (6, (((adr A_p0).add (((rdD p1 (0 : Int) 0)).toNat * 4)).add 3), (iv ((rdD p0 (rdD p1 (0 : Int) 0) z_Tile).W))), (13, ((adr A_p1).add ((w64 ((p1.length : Int) - 1)).toNat * 1)), (iv (rdD p1 (w64 ((p1.length : Int) - 1)) 0))), (16, (((adr A_p0).add (((rdD p1 (w64 ((p1.length : Int) - 1)) 0)).toNat * 4)).add 1), (iv ((rdD p0 (rdD p1 (w64 ((p1.length : Int) - 1)) 0) z_Tile).E)))], [0, 1, 2, 3, 4, 5, 6, 7, 8, 9, 10, 11, 12, 13, 14, 15, 16, 17, 19], [[], [], [1], [1, 2], [0, 1, 2, 3], [0, 1, 2, 3, 4], [0, 1, 2, 3, 4, 5], [], [], [], [9], [9, 10], [8, 9, 10, 11], [8, 9, 10, 11, 12], [7, 8, 9, 10, 11, 12, 13], [7, 8, 9, 10, 11, 12, 13, 14], [7, 8, 9, 10, 11, 12, 13, 14, 15], [0, 1, 2, 3, 4, 5, 6], [0, 1, 2, 3, 4, 5, 6, 17], [0, 1, 2, 3, 4, 5, 6, 7, 8, 9, 10, 11, 12, 13, 14, 15, 16, 17, 18], [0, 1, 2, 3, 4, 5, 6, 7, 8, 9, 10, 11, 12, 13, 14, 15, 16, 17, 18, 19]]) [[0, 1, 2, 3, 4, 5, 6, 7, 8, 9, 10, 11, 12, 13, 14, 15, 16, 17, 18, 19, 20]] (by kernel_rfl) (by kernel_rfl) (NoPanic.seq (NoPanic.body)) ?_
 have hS570 := hS558.drew
 revert hS570
 generalize World.drew w557 = w569
 intro hS570
 refine ⟨⟨rowR.cell (hS570.rd 1).1 0 h575.1 h575.2 0 rfl, rowR.cell (hS570.rd 0).1 z_Tile h576.1 h576.2 3 rfl, rowR.cell (hS570.rd 1).1 0 h577.1 h577.2 0 rfl, rowR.cell (hS570.rd 0).1 z_Tile h578.1 h578.2 1 rfl, trivial⟩, forallC ?_ (forallN)⟩
 refine segF 18 [.v (iv (rdD p1 (0 : Int) 0)), .v (iv ((rdD p0 (rdD p1 (0 : Int) 0) z_Tile).W)), .v (iv (rdD p1 (w64 ((p1.length : Int) - 1)) 0)), .v (iv ((rdD p0 (rdD p1 (w64 ((p1.length : Int) - 1)) 0) z_Tile).E))] [4, 5, 41, 51, 52] [(4, (pt g431)), (5, (pt g441)), (41, (iv ((rdD p0 (rdD p1 (0 : Int) 0) z_Tile).W))), (51, (iv ((rdD p0 (rdD p1 (w64 ((p1.length : Int) - 1)) 0) z_Tile).E))), (52, (.pointer (some ⟨g441, 17, none⟩)))] [.idx A_p1 (0 : Int) p1.length, .idx A_p0 (rdD p1 (0 : Int) 0) p0.length, .idx A_p1 (w64 ((p1.length : Int) - 1)) p1.length, .idx A_p0 (rdD p1 (w64 ((p1.length : Int) - 1)) 0) p0.length] [0, 1, 2, 3] [(3, ((adr A_p1).add (((0 : Int)).toNat * 1)), (iv (rdD p1 (0 : Int) 0))), (6, (((adr A_p0).add (((rdD p1 (0 : Int) 0)).toNat * 4)).add 3), (iv ((rdD p0 (rdD p1 (0 : Int) 0) z_Tile).W))), (13, ((adr A_p1).add ((w64 ((p1.length : Int) - 1)).toNat * 1)), (iv (rdD p1 (w64 ((p1.length : Int) - 1)) 0))), (16, (((adr A_p0).add (((rdD p1 (w64 ((p1.length : Int) - 1)) 0)).toNat * 4)).add 1), (iv ((rdD p0 (rdD p1 (w64 ((p1.length : Int) - 1)) 0) z_Tile).E)))] (fun fb => by kernel_rfl) rfl ⟨rowR.adr (hS570.rd 1).1 h575.1 h575.2, rowR.adr (hS570.rd 0).1 h576.1 h576.2, rowR.adr (hS570.rd 1).1 h577.1 h577.2, rowR.adr (hS570.rd 0).1 h578.1 h578.2, trivial⟩ rfl ?_
 refine WL.store hS570 1 rfl [(17, (iv ((rdD p0 (rdD p1 (0 : Int) 0) z_Tile).W)))] #[(.slice A437 (([] : List Int) ++ p1).length c438), (iv x525.1.e0), (iv x525.1.e1), (iv x525.1.e2), (iv x525.1.e3), (iv x525.1.e4), (iv x525.1.e5), (iv x525.1.e6), (iv x525.1.e7), (iv x525.2.e0), (iv x525.2.e1), (iv x525.2.e2), (iv x525.2.e3), (iv x525.2.e4), (iv x525.2.e5), (iv x525.2.e6), (iv x525.2.e7), (iv ((rdD p0 (rdD p1 (0 : Int) 0) z_Tile).W)), (iv 0)] (fun fb => by kernel_rfl) (by kernel_rfl) (by kernel_rfl) [0, 2] (by decide) (by decide) (fun w579 hS580 => ?_)
 refine ⟨⟨rowR.cell (hS580.rd 1).1 0 h577.1 h577.2 0 rfl, rowR.cell (hS580.rd 0).1 z_Tile h578.1 h578.2 1 rfl, trivial⟩, ?_⟩
 refine seg 20 [] [4, 5, 51, 53] [(4, (pt g431)), (5, (pt g441)), (51, (iv ((rdD p0 (rdD p1 (w64 ((p1.length : Int) - 1)) 0) z_Tile).E))), (53, (.pointer (some ⟨g441, 18, none⟩)))] [] (fun fb => by kernel_rfl) rfl trivial ?_
 refine WL.store hS580 0 rfl [(18, (iv ((rdD p0 (rdD p1 (w64 ((p1.length : Int) - 1)) 0) z_Tile).E)))] #[(.slice A437 (([] : List Int) ++ p1).length c438), (iv x525.1.e0), (iv x525.1.e1), (iv x525.1.e2), (iv x525.1.e3), (iv x525.1.e4), (iv x525.1.e5), (iv x525.1.e6), (iv x525.1.e7), (iv x525.2.e0), (iv x525.2.e1), (iv x525.2.e2), (iv x525.2.e3), (iv x525.2.e4), (iv x525.2.e5), (iv x525.2.e6), (iv x525.2.e7), (iv ((rdD p0 (rdD p1 (0 : Int) 0) z_Tile).W)), (iv ((rdD p0 (rdD p1 (w64 ((p1.length : Int) - 1)) 0) z_Tile).E))] (fun fb => by kernel_rfl) (by kernel_rfl) (by kernel_rfl) [1, 2] (by decide) (by decide) (fun w581 hS582 => ?_)
 refine ⟨trivial, ?_⟩
 refine WL.done rfl ?_
 refine WX.next ?_
 refine WC.seq ?_
 refine WC.region ?_
 refine seg 1 [.v (.slice A437 (([] : List Int) ++ p1).length c438), .v (iv x525.1.e0), .v (iv x525.1.e1), .v (iv x525.1.e2), .v (iv x525.1.e3), .v (iv x525.1.e4), .v (iv x525.1.e5), .v (iv x525.1.e6), .v (iv x525.1.e7), .v (iv x525.2.e0), .v (iv x525.2.e1), .v (iv x525.2.e2), .v (iv x525.2.e3), .v (iv x525.2.e4), .v (iv x525.2.e5), .v (iv x525.2.e6), .v (iv x525.2.e7), .v (iv ((rdD p0 (rdD p1 (0 : Int) 0) z_Tile).W)), .v (iv ((rdD p0 (rdD p1 (w64 ((p1.length : Int) - 1)) 0) z_Tile).E))] [4, 54] [(4, (pt g431)), (54, (.agg #[(.slice A437 (([] : List Int) ++ p1).length c438), (iv x525.1.e0), (iv x525.1.e1), (iv x525.1.e2), (iv x525.1.e3), (iv x525.1.e4), (iv x525.1.e5), (iv x525.1.e6), (iv x525.1.e7), (iv x525.2.e0), (iv x525.2.e1), (iv x525.2.e2), (iv x525.2.e3), (iv x525.2.e4), (iv x525.2.e5), (iv x525.2.e6), (iv x525.2.e7), (iv ((rdD p0 (rdD p1 (0 : Int) 0) z_Tile).W)), (iv ((rdD p0 (rdD p1 (w64 ((p1.length : Int) - 1)) 0) z_Tile).E))]))] [.cell ⟨g441, 0, none⟩ (.slice A437 (([] : List Int) ++ p1).length c438), .cell ⟨g441, 1, none⟩ (iv x525.1.e0), .cell ⟨g441, 2, none⟩ (iv x525.1.e1), .cell ⟨g441, 3, none⟩ (iv x525.1.e2), .cell ⟨g441, 4, none⟩ (iv x525.1.e3), .cell ⟨g441, 5, none⟩ (iv x525.1.e4), .cell ⟨g441, 6, none⟩ (iv x525.1.e5), .cell ⟨g441, 7, none⟩ (iv x525.1.e6), .cell ⟨g441, 8, none⟩ (iv x525.1.e7), .cell ⟨g441, 9, none⟩ (iv x525.2.e0), .cell ⟨g441, 10, none⟩ (iv x525.2.e1), .cell ⟨g441, 11, none⟩ (iv x525.2.e2), .cell ⟨g441, 12, none⟩ (iv x525.2.e3), .cell ⟨g441, 13, none⟩ (iv x525.2.e4), .cell ⟨g441, 14, none⟩ (iv x525.2.e5), .cell ⟨g441, 15, none⟩ (iv x525.2.e6), .cell ⟨g441, 16, none⟩ (iv x525.2.e7), .cell ⟨g441, 17, none⟩ (iv ((rdD p0 (rdD p1 (0 : Int) 0) z_Tile).W)), .cell ⟨g441, 18, none⟩ (iv ((rdD p0 (rdD p1 (w64 ((p1.length : Int) - 1)) 0) z_Tile).E))] (fun fb => by kernel_rfl) rfl ⟨hS582.cell 0 rfl 0 rfl, hS582.cell 0 rfl 1 rfl, hS582.cell 0 rfl 2 rfl, hS582.cell 0 rfl 3 rfl, hS582.cell 0 rfl 4 rfl, hS582.cell 0 rfl 5 rfl, hS582.cell 0 rfl 6 rfl, hS582.cell 0 rfl 7 rfl, hS582.cell 0 rfl 8 rfl, hS582.cell 0 rfl 9 rfl, hS582.cell 0 rfl 10 rfl, hS582.cell 0 rfl 11 rfl, hS582.cell 0 rfl 12 rfl, hS582.cell 0 rfl 13 rfl, hS582.cell 0 rfl 14 rfl, hS582.cell 0 rfl 15 rfl, hS582.cell 0 rfl 16 rfl, hS582.cell 0 rfl 17 rfl, hS582.cell 0 rfl 18 rfl, trivial⟩ ?_
 refine WL.store hS582 1 rfl [(0, (.slice A437 (([] : List Int) ++ p1).length c438)), (1, (iv x525.1.e0)), (2, (iv x525.1.e1)), (3, (iv x525.1.e2)), (4, (iv x525.1.e3)), (5, (iv x525.1.e4)), (6, (iv x525.1.e5)), (7, (iv x525.1.e6)), (8, (iv x525.1.e7)), (9, (iv x525.2.e0)), (10, (iv x525.2.e1)), (11, (iv x525.2.e2)), (12, (iv x525.2.e3)), (13, (iv x525.2.e4)), (14, (iv x525.2.e5)), (15, (iv x525.2.e6)), (16, (iv x525.2.e7)), (17, (iv ((rdD p0 (rdD p1 (0 : Int) 0) z_Tile).W))), (18, (iv ((rdD p0 (rdD p1 (w64 ((p1.length : Int) - 1)) 0) z_Tile).E)))] #[(.slice A437 (([] : List Int) ++ p1).length c438), (iv x525.1.e0), (iv x525.1.e1), (iv x525.1.e2), (iv x525.1.e3), (iv x525.1.e4), (iv x525.1.e5), (iv x525.1.e6), (iv x525.1.e7), (iv x525.2.e0), (iv x525.2.e1), (iv x525.2.e2), (iv x525.2.e3), (iv x525.2.e4), (iv x525.2.e5), (iv x525.2.e6), (iv x525.2.e7), (iv ((rdD p0 (rdD p1 (0 : Int) 0) z_Tile).W)), (iv ((rdD p0 (rdD p1 (w64 ((p1.length : Int) - 1)) 0) z_Tile).E))] (fun fb => by kernel_rfl) (by kernel_rfl) (by kernel_rfl) [0, 2] (by decide) (by decide) (fun w583 hS584 => ?_)
 refine ⟨trivial, ?_⟩
 refine WL.done rfl ?_
 refine WX.next ?_
 refine WC.ret ?_
 injection hf with hf
 subst hf
 exact WX.ret_ [.v (.slice A437 (([] : List Int) ++ p1).length c438), .v (iv x525.1.e0), .v (iv x525.1.e1), .v (iv x525.1.e2), .v (iv x525.1.e3), .v (iv x525.1.e4), .v (iv x525.1.e5), .v (iv x525.1.e6), .v (iv x525.1.e7), .v (iv x525.2.e0), .v (iv x525.2.e1), .v (iv x525.2.e2), .v (iv x525.2.e3), .v (iv x525.2.e4), .v (iv x525.2.e5), .v (iv x525.2.e6), .v (iv x525.2.e7), .v (iv ((rdD p0 (rdD p1 (0 : Int) 0) z_Tile).W)), .v (iv ((rdD p0 (rdD p1 (w64 ((p1.length : Int) - 1)) 0) z_Tile).E))] (.agg #[(.slice A437 (([] : List Int) ++ p1).length c438), (iv x525.1.e0), (iv x525.1.e1), (iv x525.1.e2), (iv x525.1.e3), (iv x525.1.e4), (iv x525.1.e5), (iv x525.1.e6), (iv x525.1.e7), (iv x525.2.e0), (iv x525.2.e1), (iv x525.2.e2), (iv x525.2.e3), (iv x525.2.e4), (iv x525.2.e5), (iv x525.2.e6), (iv x525.2.e7), (iv ((rdD p0 (rdD p1 (0 : Int) 0) z_Tile).W)), (iv ((rdD p0 (rdD p1 (w64 ((p1.length : Int) - 1)) 0) z_Tile).E))]) [.cell ⟨g431, 0, none⟩ (.slice A437 (([] : List Int) ++ p1).length c438), .cell ⟨g431, 1, none⟩ (iv x525.1.e0), .cell ⟨g431, 2, none⟩ (iv x525.1.e1), .cell ⟨g431, 3, none⟩ (iv x525.1.e2), .cell ⟨g431, 4, none⟩ (iv x525.1.e3), .cell ⟨g431, 5, none⟩ (iv x525.1.e4), .cell ⟨g431, 6, none⟩ (iv x525.1.e5), .cell ⟨g431, 7, none⟩ (iv x525.1.e6), .cell ⟨g431, 8, none⟩ (iv x525.1.e7), .cell ⟨g431, 9, none⟩ (iv x525.2.e0), .cell ⟨g431, 10, none⟩ (iv x525.2.e1), .cell ⟨g431, 11, none⟩ (iv x525.2.e2), .cell ⟨g431, 12, none⟩ (iv x525.2.e3), .cell ⟨g431, 13, none⟩ (iv x525.2.e4), .cell ⟨g431, 14, none⟩ (iv x525.2.e5), .cell ⟨g431, 15, none⟩ (iv x525.2.e6), .cell ⟨g431, 16, none⟩ (iv x525.2.e7), .cell ⟨g431, 17, none⟩ (iv ((rdD p0 (rdD p1 (0 : Int) 0) z_Tile).W)), .cell ⟨g431, 18, none⟩ (iv ((rdD p0 (rdD p1 (w64 ((p1.length : Int) - 1)) 0) z_Tile).E))] (fun fb => by kernel_rfl) ⟨hS584.cell 0 rfl 0 rfl, hS584.cell 0 rfl 1 rfl, hS584.cell 0 rfl 2 rfl, hS584.cell 0 rfl 3 rfl, hS584.cell 0 rfl 4 rfl, hS584.cell 0 rfl 5 rfl, hS584.cell 0 rfl 6 rfl, hS584.cell 0 rfl 7 rfl, hS584.cell 0 rfl 8 rfl, hS584.cell 0 rfl 9 rfl, hS584.cell 0 rfl 10 rfl, hS584.cell 0 rfl 11 rfl, hS584.cell 0 rfl 12 rfl, hS584.cell 0 rfl 13 rfl, hS584.cell 0 rfl 14 rfl, hS584.cell 0 rfl 15 rfl, hS584.cell 0 rfl 16 rfl, hS584.cell 0 rfl 17 rfl, hS584.cell 0 rfl 18 rfl, trivial⟩ ⟨_, rfl, A437, c438, rfl, (hS584.sub [2] (by decide)).noR⟩
theorem rows_All_1_calls : ∀ (k : Nat) (p0 : Int) (f0 : Int) (f1 : List Row) (f2 : List Tile) (f3 : List Int) (g_f0 : Nat) (g_f1 : Nat) (A_f1 : Option Addr) (c_f1 : Nat) (H_f1 : Nat → HF) (g_f2 : Nat) (A_f2 : Option Addr) (c_f2 : Nat) (g_f3 : Nat) (A_f3 : Option Addr) (c_f3 : Nat) (g_f4 : Nat) (r : (List Row) × (List Int)) (w : World) (hR0 : RO (fpL [blk g_f1 (.cells #[(.slice A_f1 f1.length c_f1)] 82 (0, 0)), rowO 88 encN_Row A_f1 c_f1 (tag H_f1 f1), poolO [nestO subN_Row H_f1 f1], blk g_f3 (.cells #[(.slice A_f3 f3.length c_f3)] 36 (0, 0)), rowO 3 encInt A_f3 c_f3 f3]) w (blk g_f0 (.cells #[(iv f0)] 3 (0, 0)))) (hR1 : RO (fpL [blk g_f1 (.cells #[(.slice A_f1 f1.length c_f1)] 82 (0, 0)), rowO 88 encN_Row A_f1 c_f1 (tag H_f1 f1), poolO [nestO subN_Row H_f1 f1], blk g_f3 (.cells #[(.slice A_f3 f3.length c_f3)] 36 (0, 0)), rowO 3 encInt A_f3 c_f3 f3]) w (blk g_f2 (.cells #[(.slice A_f2 f2.length c_f2)] 22 (0, 0)))) (hR2 : RO (fpL [blk g_f1 (.cells #[(.slice A_f1 f1.length c_f1)] 82 (0, 0)), rowO 88 encN_Row A_f1 c_f1 (tag H_f1 f1), poolO [nestO subN_Row H_f1 f1], blk g_f3 (.cells #[(.slice A_f3 f3.length c_f3)] 36 (0, 0)), rowO 3 encInt A_f3 c_f3 f3]) w (rowR enc_Tile A_f2 c_f2 f2)) (hR3 : RO (fpL [blk g_f1 (.cells #[(.slice A_f1 f1.length c_f1)] 82 (0, 0)), rowO 88 encN_Row A_f1 c_f1 (tag H_f1 f1), poolO [nestO subN_Row H_f1 f1], blk g_f3 (.cells #[(.slice A_f3 f3.length c_f3)] 36 (0, 0)), rowO 3 encInt A_f3 c_f3 f3]) w (blk g_f4 (.cells #[(.func (.func 82) #[] #[(.pointer (some ⟨g_f0, 0, none⟩)), (.pointer (some ⟨g_f1, 0, none⟩)), (.pointer (some ⟨g_f2, 0, none⟩)), (.pointer (some ⟨g_f3, 0, none⟩)), (.pointer (some ⟨g_f4, 0, none⟩))])] 115 (0, 0)))) (hI : IoOK w [blk g_f1 (.cells #[(.slice A_f1 f1.length c_f1)] 82 (0, 0)), rowO 88 encN_Row A_f1 c_f1 (tag H_f1 f1), poolO [nestO subN_Row H_f1 f1], blk g_f3 (.cells #[(.slice A_f3 f3.length c_f3)] 36 (0, 0)), rowO 3 encInt A_f3 c_f3 f3]) (hf : rows_All_1 k p0 f0 f1 f2 f3 = some r),
  CallsR Try.prog 82 #[(iv p0), (.pointer (some ⟨g_f0, 0, none⟩)), (.pointer (some ⟨g_f1, 0, none⟩)), (.pointer (some ⟨g_f2, 0, none⟩)), (.pointer (some ⟨g_f3, 0, none⟩)), (.pointer (some ⟨g_f4, 0, none⟩))] w (fun v w' => ∃ (A1_ : Option Addr), ∃ (c1_ : Nat), ∃ (h1_ : Nat → HF), ∃ (A2_ : Option Addr), ∃ (c2_ : Nat), v = (.tuple #[]) ∧ St (fpL [blk g_f1 (.cells #[(.slice A_f1 f1.length c_f1)] 82 (0, 0)), rowO 88 encN_Row A_f1 c_f1 (tag H_f1 f1), poolO [nestO subN_Row H_f1 f1], blk g_f3 (.cells #[(.slice A_f3 f3.length c_f3)] 36 (0, 0)), rowO 3 encInt A_f3 c_f3 f3]) w w' [] [blk g_f1 (.cells #[(.slice A1_ r.1.length c1_)] 82 (0, 0)), rowO 88 encN_Row A1_ c1_ (tag h1_ r.1), poolO [nestO subN_Row h1_ r.1], blk g_f3 (.cells #[(.slice A2_ r.2.length c2_)] 36 (0, 0)), rowO 3 encInt A2_ c2_ r.2]) := by
 intro k
 induction k with
 | zero => intro p0 f0 f1 f2 f3 g_f0 g_f1 A_f1 c_f1 H_f1 g_f2 A_f2 c_f2 g_f3 A_f3 c_f3 g_f4 r w hR0 hR1 hR2 hR3 hI hf; rw [rows_All_1] at hf; cases hf
 | succ k ih_ =>
 intro p0 f0 f1 f2 f3 g_f0 g_f1 A_f1 c_f1 H_f1 g_f2 A_f2 c_f2 g_f3 A_f3 c_f3 g_f4 r w hR0 hR1 hR2 hR3 hI hf
 have hS : St (fpL [blk g_f1 (.cells #[(.slice A_f1 f1.length c_f1)] 82 (0, 0)), rowO 88 encN_Row A_f1 c_f1 (tag H_f1 f1), poolO [nestO subN_Row H_f1 f1], blk g_f3 (.cells #[(.slice A_f3 f3.length c_f3)] 36 (0, 0)), rowO 3 encInt A_f3 c_f3 f3]) w w [blk g_f0 (.cells #[(iv f0)] 3 (0, 0)), blk g_f2 (.cells #[(.slice A_f2 f2.length c_f2)] 22 (0, 0)), rowR enc_Tile A_f2 c_f2 f2, blk g_f4 (.cells #[(.func (.func 82) #[] #[(.pointer (some ⟨g_f0, 0, none⟩)), (.pointer (some ⟨g_f1, 0, none⟩)), (.pointer (some ⟨g_f2, 0, none⟩)), (.pointer (some ⟨g_f3, 0, none⟩)), (.pointer (some ⟨g_f4, 0, none⟩))])] 115 (0, 0))] [blk g_f1 (.cells #[(.slice A_f1 f1.length c_f1)] 82 (0, 0)), rowO 88 encN_Row A_f1 c_f1 (tag H_f1 f1), poolO [nestO subN_Row H_f1 f1], blk g_f3 (.cells #[(.slice A_f3 f3.length c_f3)] 36 (0, 0)), rowO 3 encInt A_f3 c_f3 f3] := St.initIO (ro_cons hR0 (ro_cons hR1 (ro_cons hR2 (ro_cons hR3 (ro_nil _ _))))) hI
 rw [rows_All_1] at hf
 generalize rows_All_1 k = rc_ at hf ih_
 refine enter 50 Try.func82 rfl Try.ntmps82 rfl ?_
 refine WC.seq ?_
 refine WC.seq ?_
 refine WC.region ?_
 refine seg 3 [.v (iv f0)] [0, 2, 3, 4, 5, 11] [(0, (iv p0)), (2, (.pointer (some ⟨g_f1, 0, none⟩))), (3, (.pointer (some ⟨g_f2, 0, none⟩))), (4, (.pointer (some ⟨g_f3, 0, none⟩))), (5, (.pointer (some ⟨g_f4, 0, none⟩))), (11, (.bool (p0 == f0)))] [.cell ⟨g_f0, 0, none⟩ (iv f0)] (fun fb => by kernel_rfl) rfl ⟨blk_cell (hS.rd 0).1 0 rfl, trivial⟩ ?_
 refine WL.done rfl ?_
 refine WX.next ?_
 rcases br_some hf with ⟨h764, hf⟩ | ⟨h764, hf⟩
 ·refine WC.condT2 (fun fb => by kernel_rfl) h764 ?_
  refine WC.seq ?_
  refine WC.regionD ([(0, ⟨g_f1, 0, none⟩, (.slice A_f1 f1.length c_f1)), (1, ⟨g_f2, 0, none⟩, (.slice A_f2 f2.length c_f2)), (2, ⟨g_f3, 0, none⟩, (.slice A_f3 f3.length c_f3))], [0, 1, 2], [[], [], [], [1, 2], [1, 2, 3], [0, 1, 2, 3, 4], [0, 1, 2, 3, 4, 5]]) [[0, 1, 2, 3, 4, 5, 6]] (by kernel_rfl) (by kernel_rfl) (NoPanic.seq (NoPanic.seq (NoPanic.body))) ?_
  have hS786 := hS.drew
  revert hS786
  generalize World.drew w = w785
  intro hS786
  refine ⟨⟨hS786.cell 0 rfl 0 rfl, blk_cell (hS786.rd 1).1 0 rfl, hS786.cell 3 rfl 0 rfl, trivial⟩, forallC ?_ (forallN)⟩
  refine segF 3 [.v (.slice A_f1 f1.length c_f1), .v (.slice A_f2 f2.length c_f2), .v (.slice A_f3 f3.length c_f3)] [2, 4, 12, 13, 14] [(2, (.pointer (some ⟨g_f1, 0, none⟩))), (4, (.pointer (some ⟨g_f3, 0, none⟩))), (12, (.slice A_f1 f1.length c_f1)), (13, (.slice A_f2 f2.length c_f2)), (14, (.slice A_f3 f3.length c_f3))] [] [0, 1, 2] [(0, ⟨g_f1, 0, none⟩, (.slice A_f1 f1.length c_f1)), (1, ⟨g_f2, 0, none⟩, (.slice A_f2 f2.length c_f2)), (2, ⟨g_f3, 0, none⟩, (.slice A_f3 f3.length c_f3))] (fun fb => by kernel_rfl) rfl trivial rfl ?_
  obtain ⟨t787, ht788, hf⟩ := bind_some hf
  refine WL.call (some 15) 83 #[(.slice A_f2 f2.length c_f2), (.slice A_f3 f3.length c_f3)] (fun fb => by kernel_rfl) (rows_rowOf_calls _ f2 f3 A_f2 c_f2 A_f3 c_f3 t787 _ (hS786.rd 2) (hS786.ow 4).ofO ht788) (fun v w789 hR790 => ?_)
  obtain ⟨A792, c793, rfl, hk_⟩ := hR790
  have hS791 : St (fpL [blk g_f1 (.cells #[(.slice A_f1 f1.length c_f1)] 82 (0, 0)), rowO 88 encN_Row A_f1 c_f1 (tag H_f1 f1), poolO [nestO subN_Row H_f1 f1], blk g_f3 (.cells #[(.slice A_f3 f3.length c_f3)] 36 (0, 0)), rowO 3 encInt A_f3 c_f3 f3]) w w789 [blk g_f0 (.cells #[(iv f0)] 3 (0, 0)), blk g_f2 (.cells #[(.slice A_f2 f2.length c_f2)] 22 (0, 0)), rowR enc_Tile A_f2 c_f2 f2, blk g_f4 (.cells #[(.func (.func 82) #[] #[(.pointer (some ⟨g_f0, 0, none⟩)), (.pointer (some ⟨g_f1, 0, none⟩)), (.pointer (some ⟨g_f2, 0, none⟩)), (.pointer (some ⟨g_f3, 0, none⟩)), (.pointer (some ⟨g_f4, 0, none⟩))])] 115 (0, 0))] [rowO 3 encInt A792 c793 t787.Cells, blk g_f1 (.cells #[(.slice A_f1 f1.length c_f1)] 82 (0, 0)), rowO 88 encN_Row A_f1 c_f1 (tag H_f1 f1), poolO [nestO subN_Row H_f1 f1], blk g_f3 (.cells #[(.slice A_f3 f3.length c_f3)] 36 (0, 0)), rowO 3 encInt A_f3 c_f3 f3] := hS786.call hk_ [] [0, 1, 2, 3, 4] (fun g hg => hg.elim) (by simp) (by decide)
  refine ⟨⟨hS791.cell 1 rfl 0 rfl, trivial⟩, ?_⟩
  refine WL.new hS791 16 [] (fun g => (.slice (some ⟨g, 0, none⟩) 1 1)) (.cells #[(.slice A792 t787.Cells.length c793), (iv t787.South.e0), (iv t787.South.e1), (iv t787.South.e2), (iv t787.South.e3), (iv t787.South.e4), (iv t787.South.e5), (iv t787.South.e6), (iv t787.South.e7), (iv t787.North.e0), (iv t787.North.e1), (iv t787.North.e2), (iv t787.North.e3), (iv t787.North.e4), (iv t787.North.e5), (iv t787.North.e6), (iv t787.North.e7), (iv t787.West), (iv t787.East)] 88 (0, 0)) [] (fun fb g => by kernel_rfl) trivial (fun g794 w795 hS796 => ?_)
  refine ⟨⟨hS796.cell 2 rfl 0 rfl, trivial⟩, ?_⟩
  have hS798 : St (fpL [blk g_f1 (.cells #[(.slice A_f1 f1.length c_f1)] 82 (0, 0)), rowO 88 encN_Row A_f1 c_f1 (tag H_f1 f1), poolO [nestO subN_Row H_f1 f1], blk g_f3 (.cells #[(.slice A_f3 f3.length c_f3)] 36 (0, 0)), rowO 3 encInt A_f3 c_f3 f3]) w w795 [blk g_f0 (.cells #[(iv f0)] 3 (0, 0)), blk g_f2 (.cells #[(.slice A_f2 f2.length c_f2)] 22 (0, 0)), rowR enc_Tile A_f2 c_f2 f2, blk g_f4 (.cells #[(.func (.func 82) #[] #[(.pointer (some ⟨g_f0, 0, none⟩)), (.pointer (some ⟨g_f1, 0, none⟩)), (.pointer (some ⟨g_f2, 0, none⟩)), (.pointer (some ⟨g_f3, 0, none⟩)), (.pointer (some ⟨g_f4, 0, none⟩))])] 115 (0, 0))] [rowO 88 encN_Row (some ⟨g794, 0, none⟩) 1 [((hd1 A792 c793), t787)], rowO 3 encInt A792 c793 t787.Cells, blk g_f1 (.cells #[(.slice A_f1 f1.length c_f1)] 82 (0, 0)), rowO 88 encN_Row A_f1 c_f1 (tag H_f1 f1), poolO [nestO subN_Row H_f1 f1], blk g_f3 (.cells #[(.slice A_f3 f3.length c_f3)] 36 (0, 0)), rowO 3 encInt A_f3 c_f3 f3] := hS796.map1 0 _ (fun h => rowO.ofBlk h rfl (Nat.le_of_ble_eq_true (by kernel_rfl))) (fun _ h => by obtain ⟨_, h1, h2⟩ := h; injection h1 with h1; subst h1; exact h2) [1, 2, 3, 4, 5, 6] (by decide) (by decide)
  obtain ⟨h799, hf⟩ := as_some hf
  refine WL.appendN hS798 3 (d := 17) (tS := 82) (z := (.agg #[(.slice none 0 0), (iv 0), (iv 0), (iv 0), (iv 0), (iv 0), (iv 0), (iv 0), (iv 0), (iv 0), (iv 0), (iv 0), (iv 0), (iv 0), (iv 0), (iv 0), (iv 0), (iv 0), (iv 0)])) (bytes := 168) (c2 := 1) (hx := (hd1 A792 c793)) (x := t787) rfl (fun fb => by kernel_rfl) (rowO.rd (hS798.own 0).1) (by kernel_rfl) (by kernel_rfl) rfl (by decide) h799 (by decide) [0, 1, 2, 4, 5, 6] (by decide) (by decide) (fun A800 c801 w802 hS803 => ?_)
  have hS804 : St (fpL [blk g_f1 (.cells #[(.slice A_f1 f1.length c_f1)] 82 (0, 0)), rowO 88 encN_Row A_f1 c_f1 (tag H_f1 f1), poolO [nestO subN_Row H_f1 f1], blk g_f3 (.cells #[(.slice A_f3 f3.length c_f3)] 36 (0, 0)), rowO 3 encInt A_f3 c_f3 f3]) w w802 [blk g_f0 (.cells #[(iv f0)] 3 (0, 0)), blk g_f2 (.cells #[(.slice A_f2 f2.length c_f2)] 22 (0, 0)), rowR enc_Tile A_f2 c_f2 f2, blk g_f4 (.cells #[(.func (.func 82) #[] #[(.pointer (some ⟨g_f0, 0, none⟩)), (.pointer (some ⟨g_f1, 0, none⟩)), (.pointer (some ⟨g_f2, 0, none⟩)), (.pointer (some ⟨g_f3, 0, none⟩)), (.pointer (some ⟨g_f4, 0, none⟩))])] 115 (0, 0))] [poolO [nestO subN_Row (updH H_f1 f1.length (hd1 A792 c793)) (f1 ++ [t787])], rowO 88 encN_Row A800 c801 (tag (updH H_f1 f1.length (hd1 A792 c793)) (f1 ++ [t787])), rowO 88 encN_Row (some ⟨g794, 0, none⟩) 1 [((hd1 A792 c793), t787)], blk g_f1 (.cells #[(.slice A_f1 f1.length c_f1)] 82 (0, 0)), blk g_f3 (.cells #[(.slice A_f3 f3.length c_f3)] 36 (0, 0)), rowO 3 encInt A_f3 c_f3 f3] := hS803.poolPush 4 rfl 0 (by simp) rfl (hd1 A792 c793) t787 (hS803.ow 2).ofO [2] (fun g hg => ⟨2, by simp, rowO.fpR (hS803.own 2).1 g hg⟩) _ rfl [0, 1, 3, 5, 6] (by decide) (by decide)
  refine ⟨trivial, ?_⟩
  refine WL.store hS804 3 rfl [(0, (.slice A800 (f1 ++ [t787]).length c801))] #[(.slice A800 (f1 ++ [t787]).length c801)] (fun fb => by kernel_rfl) (by kernel_rfl) rfl [0, 1, 2, 4, 5] (by decide) (by decide) (fun w805 hS806 => ?_)
  refine ⟨trivial, ?_⟩
  refine WL.done rfl ?_
  refine WX.next ?_
  refine WC.ret ?_
  injection hf with hf
  subst hf
  exact WX.thenR (WX.ret_ [] (.tuple #[]) [] (fun fb => by kernel_rfl) trivial ⟨_, rfl, A800, c801, (updH H_f1 f1.length (hd1 A792 c793)), A_f3, c_f3, rfl, (hS806.sub [0, 2, 1, 4, 5] (by decide)).noR⟩)
 refine WC.condF2 (fun fb => by kernel_rfl) h764 ?_
 refine WC.skip ?_
 refine WX.next ?_
 refine WC.seq ?_
 refine WC.region ?_
 refine seg 3 [.v (.slice A_f2 f2.length c_f2)] [0, 2, 3, 4, 5, 18, 19, 20] [(0, (iv p0)), (2, (.pointer (some ⟨g_f1, 0, none⟩))), (3, (.pointer (some ⟨g_f2, 0, none⟩))), (4, (.pointer (some ⟨g_f3, 0, none⟩))), (5, (.pointer (some ⟨g_f4, 0, none⟩))), (18, (.slice A_f2 f2.length c_f2)), (19, (iv (f2.length : Int))), (20, (iv 0))] [.cell ⟨g_f2, 0, none⟩ (.slice A_f2 f2.length c_f2)] (fun fb => by kernel_rfl) rfl ⟨blk_cell (hS.rd 1).1 0 rfl, trivial⟩ ?_
 refine WL.done rfl ?_
 refine WX.next ?_
 obtain ⟨x990, hx991, hf⟩ := bind_some hf
 refine WC.cutN (T := ((List Row) × (List Int)) × (Option Addr) × Nat × (Nat → HF) × (Option Addr) × Nat) (fun t => [(2, (.pointer (some ⟨g_f1, 0, none⟩))), (4, (.pointer (some ⟨g_f3, 0, none⟩)))]) (fun t w1 => St (fpL [blk g_f1 (.cells #[(.slice A_f1 f1.length c_f1)] 82 (0, 0)), rowO 88 encN_Row A_f1 c_f1 (tag H_f1 f1), poolO [nestO subN_Row H_f1 f1], blk g_f3 (.cells #[(.slice A_f3 f3.length c_f3)] 36 (0, 0)), rowO 3 encInt A_f3 c_f3 f3]) w w1 [blk g_f0 (.cells #[(iv f0)] 3 (0, 0)), blk g_f2 (.cells #[(.slice A_f2 f2.length c_f2)] 22 (0, 0)), rowR enc_Tile A_f2 c_f2 f2, blk g_f4 (.cells #[(.func (.func 82) #[] #[(.pointer (some ⟨g_f0, 0, none⟩)), (.pointer (some ⟨g_f1, 0, none⟩)), (.pointer (some ⟨g_f2, 0, none⟩)), (.pointer (some ⟨g_f3, 0, none⟩)), (.pointer (some ⟨g_f4, 0, none⟩))])] 115 (0, 0))] [blk g_f1 (.cells #[(.slice t.2.1 t.1.1.length t.2.2.1)] 82 (0, 0)), rowO 88 encN_Row t.2.1 t.2.2.1 (tag t.2.2.2.1 t.1.1), poolO [nestO subN_Row t.2.2.2.1 t.1.1], blk g_f3 (.cells #[(.slice t.2.2.2.2.1 t.1.2.length t.2.2.2.2.2)] 36 (0, 0)), rowO 3 encInt t.2.2.2.2.1 t.2.2.2.2.2 t.1.2] ∧ x990 = t.1) (fun Kx990 => ?_) ?_
 ·
  refine WC.block ?_
  refine WC.loop (T := ((List Row) × (List Int) × Int) × (Option Addr) × Nat × (Nat → HF) × (Option Addr) × Nat) (fun t => [(0, (iv p0)), (2, (.pointer (some ⟨g_f1, 0, none⟩))), (3, (.pointer (some ⟨g_f2, 0, none⟩))), (4, (.pointer (some ⟨g_f3, 0, none⟩))), (5, (.pointer (some ⟨g_f4, 0, none⟩))), (18, (.slice A_f2 f2.length c_f2)), (19, (iv (f2.length : Int))), (20, (iv t.1.2.2))]) (fun n t w1 => St (fpL [blk g_f1 (.cells #[(.slice A_f1 f1.length c_f1)] 82 (0, 0)), rowO 88 encN_Row A_f1 c_f1 (tag H_f1 f1), poolO [nestO subN_Row H_f1 f1], blk g_f3 (.cells #[(.slice A_f3 f3.length c_f3)] 36 (0, 0)), rowO 3 encInt A_f3 c_f3 f3]) w w1 [blk g_f0 (.cells #[(iv f0)] 3 (0, 0)), blk g_f2 (.cells #[(.slice A_f2 f2.length c_f2)] 22 (0, 0)), rowR enc_Tile A_f2 c_f2 f2, blk g_f4 (.cells #[(.func (.func 82) #[] #[(.pointer (some ⟨g_f0, 0, none⟩)), (.pointer (some ⟨g_f1, 0, none⟩)), (.pointer (some ⟨g_f2, 0, none⟩)), (.pointer (some ⟨g_f3, 0, none⟩)), (.pointer (some ⟨g_f4, 0, none⟩))])] 115 (0, 0))] [blk g_f1 (.cells #[(.slice t.2.1 t.1.1.length t.2.2.1)] 82 (0, 0)), rowO 88 encN_Row t.2.1 t.2.2.1 (tag t.2.2.2.1 t.1.1), poolO [nestO subN_Row t.2.2.2.1 t.1.1], blk g_f3 (.cells #[(.slice t.2.2.2.2.1 t.1.2.1.length t.2.2.2.2.2)] 36 (0, 0)), rowO 3 encInt t.2.2.2.2.1 t.2.2.2.2.2 t.1.2.1] ∧ rows_All_1.l0 n t.1.1 t.1.2.1 t.1.2.2 p0 f0 f2 rc_ = some x990) k ((f1, f3, 0), A_f1, c_f1, H_f1, A_f3, c_f3) [0, 2, 3, 4, 5, 18, 19, 20] rfl ⟨(hS.subR [0, 1, 2, 3]).sub [0, 1, 2, 3, 4] (by decide), hx991⟩ ?_
  rintro k992 ⟨⟨l977, l981, x982⟩, A975, c976, H978, A979, c980⟩ w993 ⟨hS994, hl995⟩
  cases k992 with
  | zero => rw [rows_All_1.l0] at hl995; cases hl995
  | succ k992 =>
   rw [rows_All_1.l0] at hl995
   refine WC.seq ?_
   refine WC.region ?_
   refine seg 1 [] [0, 2, 3, 4, 5, 18, 19, 20, 21] [(0, (iv p0)), (2, (.pointer (some ⟨g_f1, 0, none⟩))), (3, (.pointer (some ⟨g_f2, 0, none⟩))), (4, (.pointer (some ⟨g_f3, 0, none⟩))), (5, (.pointer (some ⟨g_f4, 0, none⟩))), (18, (.slice A_f2 f2.length c_f2)), (19, (iv (f2.length : Int))), (20, (iv x982)), (21, (.bool (decide (x982 < (f2.length : Int)))))] [] (fun fb => by kernel_rfl) rfl trivial ?_
   refine WL.done rfl ?_
   refine WX.next ?_
   refine WC.seq ?_
   rcases br_some hl995 with ⟨h996, hl995⟩ | ⟨h996, hl995⟩
   ·refine WC.condT2 (fun fb => by kernel_rfl) h996 ?_
    refine WC.skip ?_
    refine WX.next ?_
    refine WC.seq ?_
    refine WC.block ?_
    refine WC.seq ?_
    refine WC.region ?_
    refine seg 1 [] [0, 2, 3, 4, 5, 18, 19, 20, 22] [(0, (iv p0)), (2, (.pointer (some ⟨g_f1, 0, none⟩))), (3, (.pointer (some ⟨g_f2, 0, none⟩))), (4, (.pointer (some ⟨g_f3, 0, none⟩))), (5, (.pointer (some ⟨g_f4, 0, none⟩))), (18, (.slice A_f2 f2.length c_f2)), (19, (iv (f2.length : Int))), (20, (iv x982)), (22, (iv x982))] [] (fun fb => by kernel_rfl) rfl trivial ?_
    obtain ⟨h997, hl995⟩ := as_some hl995
    refine seg 3 [.v (iv ((rdD f2 x982 z_Tile).N)), .v (iv ((rdD f2 x982 z_Tile).E)), .v (iv ((rdD f2 x982 z_Tile).S)), .v (iv ((rdD f2 x982 z_Tile).W))] [0, 2, 3, 4, 5, 18, 19, 20, 22, 24] [(0, (iv p0)), (2, (.pointer (some ⟨g_f1, 0, none⟩))), (3, (.pointer (some ⟨g_f2, 0, none⟩))), (4, (.pointer (some ⟨g_f3, 0, none⟩))), (5, (.pointer (some ⟨g_f4, 0, none⟩))), (18, (.slice A_f2 f2.length c_f2)), (19, (iv (f2.length : Int))), (20, (iv x982)), (22, (iv x982)), (24, (.agg #[(iv ((rdD f2 x982 z_Tile).N)), (iv ((rdD f2 x982 z_Tile).E)), (iv ((rdD f2 x982 z_Tile).S)), (iv ((rdD f2 x982 z_Tile).W))]))] [.idx A_f2 x982 f2.length, .cell ((adr A_f2).add ((x982).toNat * 4)) (iv ((rdD f2 x982 z_Tile).N)), .cell (((adr A_f2).add ((x982).toNat * 4)).add 1) (iv ((rdD f2 x982 z_Tile).E)), .cell (((adr A_f2).add ((x982).toNat * 4)).add 2) (iv ((rdD f2 x982 z_Tile).S)), .cell (((adr A_f2).add ((x982).toNat * 4)).add 3) (iv ((rdD f2 x982 z_Tile).W))] (fun fb => by kernel_rfl) rfl ⟨rowR.adr (hS994.rd 2).1 h997.1 h997.2, rowR.cell (hS994.rd 2).1 z_Tile h997.1 h997.2 0 rfl, rowR.cell (hS994.rd 2).1 z_Tile h997.1 h997.2 1 rfl, rowR.cell (hS994.rd 2).1 z_Tile h997.1 h997.2 2 rfl, rowR.cell (hS994.rd 2).1 z_Tile h997.1 h997.2 3 rfl, trivial⟩ ?_
    refine WL.new hS994 8 [] (fun g => (.pointer (some ⟨g, 0, none⟩))) (.cells #[(iv 0), (iv 0), (iv 0), (iv 0)] 24 (0, 0)) [] (fun fb g => by kernel_rfl) trivial (fun g998 w999 hS1000 => ?_)
    refine ⟨trivial, ?_⟩
    refine seg 5 [] [0, 2, 3, 4, 5, 7, 8, 18, 19, 20, 24] [(0, (iv p0)), (2, (.pointer (some ⟨g_f1, 0, none⟩))), (3, (.pointer (some ⟨g_f2, 0, none⟩))), (4, (.pointer (some ⟨g_f3, 0, none⟩))), (5, (.pointer (some ⟨g_f4, 0, none⟩))), (7, (iv x982)), (8, (pt g998)), (18, (.slice A_f2 f2.length c_f2)), (19, (iv (f2.length : Int))), (20, (iv x982)), (24, (.agg #[(iv ((rdD f2 x982 z_Tile).N)), (iv ((rdD f2 x982 z_Tile).E)), (iv ((rdD f2 x982 z_Tile).S)), (iv ((rdD f2 x982 z_Tile).W))]))] [] (fun fb => by kernel_rfl) rfl trivial ?_
    refine WL.store hS1000 0 rfl [(0, (iv ((rdD f2 x982 z_Tile).N))), (1, (iv ((rdD f2 x982 z_Tile).E))), (2, (iv ((rdD f2 x982 z_Tile).S))), (3, (iv ((rdD f2 x982 z_Tile).W)))] #[(iv ((rdD f2 x982 z_Tile).N)), (iv ((rdD f2 x982 z_Tile).E)), (iv ((rdD f2 x982 z_Tile).S)), (iv ((rdD f2 x982 z_Tile).W))] (fun fb => by kernel_rfl) (by kernel_rfl) rfl [1, 2, 3, 4, 5] (by decide) (by decide) (fun w1002 hS1003 => ?_)
    refine ⟨trivial, ?_⟩
    refine WL.done rfl ?_
    refine WX.next ?_
    refine WC.seq ?_
    obtain ⟨x1016, hx1017, hl995⟩ := bind_some hl995
    refine WC.cutN (T := Bool) (fun t => [(0, (iv p0)), (2, (.pointer (some ⟨g_f1, 0, none⟩))), (3, (.pointer (some ⟨g_f2, 0, none⟩))), (4, (.pointer (some ⟨g_f3, 0, none⟩))), (5, (.pointer (some ⟨g_f4, 0, none⟩))), (7, (iv x982)), (18, (.slice A_f2 f2.length c_f2)), (19, (iv (f2.length : Int))), (20, (iv x982)), (40, (.bool t))]) (fun t w1 => St (fpL [blk g_f1 (.cells #[(.slice A_f1 f1.length c_f1)] 82 (0, 0)), rowO 88 encN_Row A_f1 c_f1 (tag H_f1 f1), poolO [nestO subN_Row H_f1 f1], blk g_f3 (.cells #[(.slice A_f3 f3.length c_f3)] 36 (0, 0)), rowO 3 encInt A_f3 c_f3 f3]) w w1 [blk g_f0 (.cells #[(iv f0)] 3 (0, 0)), blk g_f2 (.cells #[(.slice A_f2 f2.length c_f2)] 22 (0, 0)), rowR enc_Tile A_f2 c_f2 f2, blk g_f4 (.cells #[(.func (.func 82) #[] #[(.pointer (some ⟨g_f0, 0, none⟩)), (.pointer (some ⟨g_f1, 0, none⟩)), (.pointer (some ⟨g_f2, 0, none⟩)), (.pointer (some ⟨g_f3, 0, none⟩)), (.pointer (some ⟨g_f4, 0, none⟩))])] 115 (0, 0))] [blk g_f1 (.cells #[(.slice A975 l977.length c976)] 82 (0, 0)), rowO 88 encN_Row A975 c976 (tag H978 l977), poolO [nestO subN_Row H978 l977], blk g_f3 (.cells #[(.slice A979 l981.length c980)] 36 (0, 0)), rowO 3 encInt A979 c980 l981] ∧ x1016 = t) (fun Kx1016 => ?_) ?_
    ·
     rcases br_some hx1017 with ⟨h1018, hx1017⟩ | ⟨h1018, hx1017⟩
     ·
      refine WC.regionD ([], [0, 1, 2, 3, 4, 5, 6, 7, 8, 9, 10, 11, 12, 13, 14, 15], [[], [0], [0, 1], [0, 1, 2], [0, 1, 2], [0, 1, 2], [0, 1, 2, 5], [0, 1, 2, 4, 5, 6], [0, 1, 2, 4, 5, 6, 7], [0, 1, 2, 3, 4, 5, 6, 7, 8], [0, 1, 2, 3, 4, 5, 6, 7, 8, 9], [0, 1, 2, 3, 4, 5, 6, 7, 8, 9, 10], [0, 1, 2], [0, 1, 2, 12], [0, 1, 2, 3, 4, 5, 6, 7, 8, 9, 10, 11, 12, 13], [0, 1, 2, 3, 4, 5, 6, 7, 8, 9, 10, 11, 12, 13, 14]]) [[0, 1, 2, 3, 4, 5, 6, 7, 8, 9, 10, 11, 12, 13, 14, 15]] (by kernel_rfl) (by kernel_rfl) (NoPanic.seq (NoPanic.block (NoPanic.seq (NoPanic.seq (NoPanic.block (NoPanic.body)))))) ?_
      have hS1020 := hS1003.drew
      revert hS1020
      generalize World.drew w1002 = w1019
      intro hS1020
      refine ⟨trivial, forallC ?_ (forallN)⟩
      refine seg 3 [] [0, 2, 3, 4, 5, 7, 8, 18, 19, 20, 27] [(0, (iv p0)), (2, (.pointer (some ⟨g_f1, 0, none⟩))), (3, (.pointer (some ⟨g_f2, 0, none⟩))), (4, (.pointer (some ⟨g_f3, 0, none⟩))), (5, (.pointer (some ⟨g_f4, 0, none⟩))), (7, (iv x982)), (8, (pt g998)), (18, (.slice A_f2 f2.length c_f2)), (19, (iv (f2.length : Int))), (20, (iv x982)), (27, (.bool (p0 == 0)))] [] (fun fb => by kernel_rfl) rfl trivial ?_
      refine WL.setB 27 h1018 rfl ?_
      refine seg 16 [] [0, 2, 3, 4, 5, 7, 18, 19, 20, 40] [(0, (iv p0)), (2, (.pointer (some ⟨g_f1, 0, none⟩))), (3, (.pointer (some ⟨g_f2, 0, none⟩))), (4, (.pointer (some ⟨g_f3, 0, none⟩))), (5, (.pointer (some ⟨g_f4, 0, none⟩))), (7, (iv x982)), (18, (.slice A_f2 f2.length c_f2)), (19, (iv (f2.length : Int))), (20, (iv x982)), (40, (.bool true))] [] (fun fb => by kernel_rfl) rfl trivial ?_
      refine WL.done rfl ?_
      injection hx1017 with hx1017
      exact WX.to Kx1016 true [0, 2, 3, 4, 5, 7, 18, 19, 20, 40] rfl ⟨(hS1020.subR [0, 1, 2, 3]).sub [1, 2, 3, 4, 5] (by decide), hx1017.symm⟩
     obtain ⟨h1027, hx1017⟩ := as_some hx1017
     obtain ⟨h1028, hx1017⟩ := as_some hx1017
     refine WC.regionD ([(3, ⟨g_f2, 0, none⟩, (.slice A_f2 f2.length c_f2)), (4, ⟨g_f3, 0, none⟩, (.slice A979 l981.length c980)), (8, ((adr A979).add ((w64 (p0 - 1)).toNat * 1)), (iv (rdD l981 (w64 (p0 - 1)) 0))), (11, (((adr A_f2).add (((rdD l981 (w64 (p0 - 1)) 0)).toNat * 4)).add 1), (iv ((rdD f2 (rdD l981 (w64 (p0 - 1)) 0) z_Tile).E))), (13, ⟨g998, 3, none⟩, (iv ((rdD f2 x982 z_Tile).W)))], [0, 1, 2, 3, 4, 5, 6, 7, 8, 9, 10, 11, 12, 13, 14, 15], [[], [0], [0, 1], [0, 1, 2], [0, 1, 2], [0, 1, 2], [0, 1, 2, 5], [0, 1, 2, 4, 5, 6], [0, 1, 2, 4, 5, 6, 7], [0, 1, 2, 3, 4, 5, 6, 7, 8], [0, 1, 2, 3, 4, 5, 6, 7, 8, 9], [0, 1, 2, 3, 4, 5, 6, 7, 8, 9, 10], [0, 1, 2], [0, 1, 2, 12], [0, 1, 2, 3, 4, 5, 6, 7, 8, 9, 10, 11, 12, 13], [0, 1, 2, 3, 4, 5, 6, 7, 8, 9, 10, 11, 12, 13, 14]]) [[0, 1, 2, 3, 4, 5, 6, 7, 8, 9, 10, 11, 12, 13, 14, 15]] (by kernel_rfl) (by kernel_rfl) (NoPanic.seq (NoPanic.block (NoPanic.seq (NoPanic.seq (NoPanic.block (NoPanic.body)))))) ?_
     have hS1024 := hS1003.drew
     revert hS1024
     generalize World.drew w1002 = w1023
     intro hS1024
     refine ⟨⟨blk_cell (hS1024.rd 1).1 0 rfl, hS1024.cell 4 rfl 0 rfl, rowR.cell (rowO.rd (hS1024.own 5).1) 0 h1027.1 h1027.2 0 rfl, rowR.cell (hS1024.rd 2).1 z_Tile h1028.1 h1028.2 1 rfl, hS1024.cell 0 rfl 3 rfl, trivial⟩, forallC ?_ (forallN)⟩
     refine seg 3 [] [0, 2, 3, 4, 5, 7, 8, 18, 19, 20, 27] [(0, (iv p0)), (2, (.pointer (some ⟨g_f1, 0, none⟩))), (3, (.pointer (some ⟨g_f2, 0, none⟩))), (4, (.pointer (some ⟨g_f3, 0, none⟩))), (5, (.pointer (some ⟨g_f4, 0, none⟩))), (7, (iv x982)), (8, (pt g998)), (18, (.slice A_f2 f2.length c_f2)), (19, (iv (f2.length : Int))), (20, (iv x982)), (27, (.bool (p0 == 0)))] [] (fun fb => by kernel_rfl) rfl trivial ?_
     refine WL.setB 27 h1018 rfl ?_
     refine segF 16 [.v (.slice A_f2 f2.length c_f2), .v (.slice A979 l981.length c980), .v (iv (rdD l981 (w64 (p0 - 1)) 0)), .v (iv ((rdD f2 (rdD l981 (w64 (p0 - 1)) 0) z_Tile).E)), .v (iv ((rdD f2 x982 z_Tile).W))] [0, 2, 3, 4, 5, 7, 18, 19, 20, 40] [(0, (iv p0)), (2, (.pointer (some ⟨g_f1, 0, none⟩))), (3, (.pointer (some ⟨g_f2, 0, none⟩))), (4, (.pointer (some ⟨g_f3, 0, none⟩))), (5, (.pointer (some ⟨g_f4, 0, none⟩))), (7, (iv x982)), (18, (.slice A_f2 f2.length c_f2)), (19, (iv (f2.length : Int))), (20, (iv x982)), (40, (.bool (((rdD f2 (rdD l981 (w64 (p0 - 1)) 0) z_Tile).E) == ((rdD f2 x982 z_Tile).W))))] [.idx A979 (w64 (p0 - 1)) l981.length, .idx A_f2 (rdD l981 (w64 (p0 - 1)) 0) f2.length] [0, 1, 2, 3, 4] [(3, ⟨g_f2, 0, none⟩, (.slice A_f2 f2.length c_f2)), (4, ⟨g_f3, 0, none⟩, (.slice A979 l981.length c980)), (8, ((adr A979).add ((w64 (p0 - 1)).toNat * 1)), (iv (rdD l981 (w64 (p0 - 1)) 0))), (11, (((adr A_f2).add (((rdD l981 (w64 (p0 - 1)) 0)).toNat * 4)).add 1), (iv ((rdD f2 (rdD l981 (w64 (p0 - 1)) 0) z_Tile).E))), (13, ⟨g998, 3, none⟩, (iv ((rdD f2 x982 z_Tile).W)))] (fun fb => by kernel_rfl) rfl ⟨rowR.adr (rowO.rd (hS1024.own 5).1) h1027.1 h1027.2, rowR.adr (hS1024.rd 2).1 h1028.1 h1028.2, trivial⟩ rfl ?_
     refine WL.done rfl ?_
     injection hx1017 with hx1017
     exact WX.to Kx1016 (((rdD f2 (rdD l981 (w64 (p0 - 1)) 0) z_Tile).E) == ((rdD f2 x982 z_Tile).W)) [0, 2, 3, 4, 5, 7, 18, 19, 20, 40] rfl ⟨(hS1024.subR [0, 1, 2, 3]).sub [1, 2, 3, 4, 5] (by decide), hx1017.symm⟩
    rintro y1032 w1029 ⟨hS1030, hq1031⟩
    subst hq1031
    refine WX.next ?_
    obtain ⟨x1055, hx1056, hl995⟩ := bind_some hl995
    refine WC.cutN (T := ((List Row) × (List Int)) × (Option Addr) × Nat × (Nat → HF) × (Option Addr) × Nat) (fun t => [(0, (iv p0)), (2, (.pointer (some ⟨g_f1, 0, none⟩))), (3, (.pointer (some ⟨g_f2, 0, none⟩))), (4, (.pointer (some ⟨g_f3, 0, none⟩))), (5, (.pointer (some ⟨g_f4, 0, none⟩))), (18, (.slice A_f2 f2.length c_f2)), (19, (iv (f2.length : Int))), (20, (iv x982))]) (fun t w1 => St (fpL [blk g_f1 (.cells #[(.slice A_f1 f1.length c_f1)] 82 (0, 0)), rowO 88 encN_Row A_f1 c_f1 (tag H_f1 f1), poolO [nestO subN_Row H_f1 f1], blk g_f3 (.cells #[(.slice A_f3 f3.length c_f3)] 36 (0, 0)), rowO 3 encInt A_f3 c_f3 f3]) w w1 [blk g_f0 (.cells #[(iv f0)] 3 (0, 0)), blk g_f2 (.cells #[(.slice A_f2 f2.length c_f2)] 22 (0, 0)), rowR enc_Tile A_f2 c_f2 f2, blk g_f4 (.cells #[(.func (.func 82) #[] #[(.pointer (some ⟨g_f0, 0, none⟩)), (.pointer (some ⟨g_f1, 0, none⟩)), (.pointer (some ⟨g_f2, 0, none⟩)), (.pointer (some ⟨g_f3, 0, none⟩)), (.pointer (some ⟨g_f4, 0, none⟩))])] 115 (0, 0))] [blk g_f1 (.cells #[(.slice t.2.1 t.1.1.length t.2.2.1)] 82 (0, 0)), rowO 88 encN_Row t.2.1 t.2.2.1 (tag t.2.2.2.1 t.1.1), poolO [nestO subN_Row t.2.2.2.1 t.1.1], blk g_f3 (.cells #[(.slice t.2.2.2.2.1 t.1.2.length t.2.2.2.2.2)] 36 (0, 0)), rowO 3 encInt t.2.2.2.2.1 t.2.2.2.2.2 t.1.2] ∧ x1055 = t.1) (fun Kx1055 => ?_) ?_
    ·
     rcases br_some hx1056 with ⟨h1057, hx1056⟩ | ⟨h1057, hx1056⟩
     ·refine WC.condT2 (fun fb => by kernel_rfl) h1057 ?_
      refine WC.seq ?_
      refine WC.region ?_
      refine seg 3 [.v (.slice A979 l981.length c980)] [0, 2, 3, 4, 5, 18, 19, 20, 41, 42, 43] [(0, (iv p0)), (2, (.pointer (some ⟨g_f1, 0, none⟩))), (3, (.pointer (some ⟨g_f2, 0, none⟩))), (4, (.pointer (some ⟨g_f3, 0, none⟩))), (5, (.pointer (some ⟨g_f4, 0, none⟩))), (18, (.slice A_f2 f2.length c_f2)), (19, (iv (f2.length : Int))), (20, (iv x982)), (41, (.slice A979 l981.length c980)), (42, (iv p0)), (43, (iv x982))] [.cell ⟨g_f3, 0, none⟩ (.slice A979 l981.length c980)] (fun fb => by kernel_rfl) rfl ⟨hS1030.cell 3 rfl 0 rfl, trivial⟩ ?_
      obtain ⟨h1058, hx1056⟩ := as_some hx1056
      refine seg 4 [] [0, 2, 3, 4, 5, 18, 19, 20, 43, 44] [(0, (iv p0)), (2, (.pointer (some ⟨g_f1, 0, none⟩))), (3, (.pointer (some ⟨g_f2, 0, none⟩))), (4, (.pointer (some ⟨g_f3, 0, none⟩))), (5, (.pointer (some ⟨g_f4, 0, none⟩))), (18, (.slice A_f2 f2.length c_f2)), (19, (iv (f2.length : Int))), (20, (iv x982)), (43, (iv x982)), (44, (.pointer (some ((adr A979).add ((p0).toNat * 1)))))] [.idx A979 p0 l981.length] (fun fb => by kernel_rfl) rfl ⟨rowR.adr (rowO.rd (hS1030.own 4).1) h1058.1 h1058.2, trivial⟩ ?_
      refine WL.storeRow hS1030 4 rfl (p0) (x982) (0) [(0, (iv x982))] (fun fb => by kernel_rfl) h1058.1 h1058.2 (by kernel_rfl) rfl [0, 1, 2, 3] (by decide) (by decide) (fun w1059 hS1060 => ?_)
      refine ⟨trivial, ?_⟩
      have hS1061 : St (fpL [blk g_f1 (.cells #[(.slice A_f1 f1.length c_f1)] 82 (0, 0)), rowO 88 encN_Row A_f1 c_f1 (tag H_f1 f1), poolO [nestO subN_Row H_f1 f1], blk g_f3 (.cells #[(.slice A_f3 f3.length c_f3)] 36 (0, 0)), rowO 3 encInt A_f3 c_f3 f3]) w w1059 [blk g_f0 (.cells #[(iv f0)] 3 (0, 0)), blk g_f2 (.cells #[(.slice A_f2 f2.length c_f2)] 22 (0, 0)), rowR enc_Tile A_f2 c_f2 f2, blk g_f4 (.cells #[(.func (.func 82) #[] #[(.pointer (some ⟨g_f0, 0, none⟩)), (.pointer (some ⟨g_f1, 0, none⟩)), (.pointer (some ⟨g_f2, 0, none⟩)), (.pointer (some ⟨g_f3, 0, none⟩)), (.pointer (some ⟨g_f4, 0, none⟩))])] 115 (0, 0))] [rowO 3 encInt A979 c980 (l981.set (p0).toNat x982), blk g_f1 (.cells #[(.slice A975 l977.length c976)] 82 (0, 0)), rowO 88 encN_Row A975 c976 (tag H978 l977), poolO [nestO subN_Row H978 l977], blk g_f3 (.cells #[(.slice A979 (l981.set (p0).toNat x982).length c980)] 36 (0, 0))] := by simpa only [List.length_set] using (show St (fpL [blk g_f1 (.cells #[(.slice A_f1 f1.length c_f1)] 82 (0, 0)), rowO 88 encN_Row A_f1 c_f1 (tag H_f1 f1), poolO [nestO subN_Row H_f1 f1], blk g_f3 (.cells #[(.slice A_f3 f3.length c_f3)] 36 (0, 0)), rowO 3 encInt A_f3 c_f3 f3]) w w1059 [blk g_f0 (.cells #[(iv f0)] 3 (0, 0)), blk g_f2 (.cells #[(.slice A_f2 f2.length c_f2)] 22 (0, 0)), rowR enc_Tile A_f2 c_f2 f2, blk g_f4 (.cells #[(.func (.func 82) #[] #[(.pointer (some ⟨g_f0, 0, none⟩)), (.pointer (some ⟨g_f1, 0, none⟩)), (.pointer (some ⟨g_f2, 0, none⟩)), (.pointer (some ⟨g_f3, 0, none⟩)), (.pointer (some ⟨g_f4, 0, none⟩))])] 115 (0, 0))] [rowO 3 encInt A979 c980 (l981.set (p0).toNat x982), blk g_f1 (.cells #[(.slice A975 l977.length c976)] 82 (0, 0)), rowO 88 encN_Row A975 c976 (tag H978 l977), poolO [nestO subN_Row H978 l977], blk g_f3 (.cells #[(.slice A979 l981.length c980)] 36 (0, 0))] from hS1060)
      refine WL.done rfl ?_
      refine WX.next ?_
      refine WC.region ?_
      refine seg 3 [.v (.func (.func 82) #[] #[(.pointer (some ⟨g_f0, 0, none⟩)), (.pointer (some ⟨g_f1, 0, none⟩)), (.pointer (some ⟨g_f2, 0, none⟩)), (.pointer (some ⟨g_f3, 0, none⟩)), (.pointer (some ⟨g_f4, 0, none⟩))])] [0, 2, 3, 4, 5, 18, 19, 20, 45, 47] [(0, (iv p0)), (2, (.pointer (some ⟨g_f1, 0, none⟩))), (3, (.pointer (some ⟨g_f2, 0, none⟩))), (4, (.pointer (some ⟨g_f3, 0, none⟩))), (5, (.pointer (some ⟨g_f4, 0, none⟩))), (18, (.slice A_f2 f2.length c_f2)), (19, (iv (f2.length : Int))), (20, (iv x982)), (45, (.func (.func 82) #[] #[(.pointer (some ⟨g_f0, 0, none⟩)), (.pointer (some ⟨g_f1, 0, none⟩)), (.pointer (some ⟨g_f2, 0, none⟩)), (.pointer (some ⟨g_f3, 0, none⟩)), (.pointer (some ⟨g_f4, 0, none⟩))])), (47, (iv (w64 (p0 + 1))))] [.cell ⟨g_f4, 0, none⟩ (.func (.func 82) #[] #[(.pointer (some ⟨g_f0, 0, none⟩)), (.pointer (some ⟨g_f1, 0, none⟩)), (.pointer (some ⟨g_f2, 0, none⟩)), (.pointer (some ⟨g_f3, 0, none⟩)), (.pointer (some ⟨g_f4, 0, none⟩))])] (fun fb => by kernel_rfl) rfl ⟨blk_cell (hS1061.rd 3).1 0 rfl, trivial⟩ ?_
      obtain ⟨t1062, ht1063, hx1056⟩ := bind_some hx1056
      refine WL.call (some 48) 82 #[(iv (w64 (p0 + 1))), (.pointer (some ⟨g_f0, 0, none⟩)), (.pointer (some ⟨g_f1, 0, none⟩)), (.pointer (some ⟨g_f2, 0, none⟩)), (.pointer (some ⟨g_f3, 0, none⟩)), (.pointer (some ⟨g_f4, 0, none⟩))] (fun fb => by kernel_rfl) (ih_ (w64 (p0 + 1)) f0 l977 f2 (l981.set (p0).toNat x982) g_f0 g_f1 A975 c976 H978 g_f2 A_f2 c_f2 g_f3 A979 c980 g_f4 t1062 _ (hS1061.rdT [1, 2, 3, 4, 0] 0) (hS1061.rdT [1, 2, 3, 4, 0] 1) (hS1061.rdT [1, 2, 3, 4, 0] 2) (hS1061.rdT [1, 2, 3, 4, 0] 3) (hS1061.io [1, 2, 3, 4, 0] (by decide)) ht1063) (fun v w1064 hR1065 => ?_)
      obtain ⟨A1067, c1068, H1069, A1070, c1071, rfl, hk_⟩ := hR1065
      have hS1066 : St (fpL [blk g_f1 (.cells #[(.slice A_f1 f1.length c_f1)] 82 (0, 0)), rowO 88 encN_Row A_f1 c_f1 (tag H_f1 f1), poolO [nestO subN_Row H_f1 f1], blk g_f3 (.cells #[(.slice A_f3 f3.length c_f3)] 36 (0, 0)), rowO 3 encInt A_f3 c_f3 f3]) w w1064 [blk g_f0 (.cells #[(iv f0)] 3 (0, 0)), blk g_f2 (.cells #[(.slice A_f2 f2.length c_f2)] 22 (0, 0)), rowR enc_Tile A_f2 c_f2 f2, blk g_f4 (.cells #[(.func (.func 82) #[] #[(.pointer (some ⟨g_f0, 0, none⟩)), (.pointer (some ⟨g_f1, 0, none⟩)), (.pointer (some ⟨g_f2, 0, none⟩)), (.pointer (some ⟨g_f3, 0, none⟩)), (.pointer (some ⟨g_f4, 0, none⟩))])] 115 (0, 0))] [blk g_f1 (.cells #[(.slice A1067 t1062.1.length c1068)] 82 (0, 0)), rowO 88 encN_Row A1067 c1068 (tag H1069 t1062.1), poolO [nestO subN_Row H1069 t1062.1], blk g_f3 (.cells #[(.slice A1070 t1062.2.length c1071)] 36 (0, 0)), rowO 3 encInt A1070 c1071 t1062.2] := hS1061.call hk_ [1, 2, 3, 4, 0] [] (fun g hg => fpL_sel g hg) (by decide) (by decide)
      refine ⟨trivial, ?_⟩
      refine WL.done rfl ?_
      injection hx1056 with hx1056
      exact WX.to Kx1055 ((t1062.1, t1062.2), A1067, c1068, H1069, A1070, c1071) [0, 2, 3, 4, 5, 18, 19, 20] rfl ⟨(hS1066.subR [0, 1, 2, 3]).sub [0, 1, 2, 3, 4] (by decide), hx1056.symm⟩
     refine WC.condF2 (fun fb => by kernel_rfl) h1057 ?_
     refine WC.skip ?_
     injection hx1056 with hx1056
     exact WX.to Kx1055 ((l977, l981), A975, c976, H978, A979, c980) [0, 2, 3, 4, 5, 18, 19, 20] rfl ⟨(hS1030.subR [0, 1, 2, 3]).sub [0, 1, 2, 3, 4] (by decide), hx1056.symm⟩
    rintro ⟨y1075, A1048, c1049, H1051, A1052, c1053⟩ w1072 ⟨hS1073, hq1074⟩
    subst hq1074
    refine WX.blockN (WX.next ?_)
    refine WC.region ?_
    refine seg 2 [] [0, 2, 3, 4, 5, 18, 19, 20] [(0, (iv p0)), (2, (.pointer (some ⟨g_f1, 0, none⟩))), (3, (.pointer (some ⟨g_f2, 0, none⟩))), (4, (.pointer (some ⟨g_f3, 0, none⟩))), (5, (.pointer (some ⟨g_f4, 0, none⟩))), (18, (.slice A_f2 f2.length c_f2)), (19, (iv (f2.length : Int))), (20, (iv (w64 (x982 + 1))))] [] (fun fb => by kernel_rfl) rfl trivial ?_
    refine WL.done rfl ?_
    exact WX.again k992 (Nat.lt_succ_self _) ((x1055.1, x1055.2, w64 (x982 + 1)), A1048, c1049, H1051, A1052, c1053) [0, 2, 3, 4, 5, 18, 19, 20] rfl ⟨(hS1073.subR [0, 1, 2, 3]).sub [0, 1, 2, 3, 4] (by decide), hl995⟩
   refine WC.condF2 (fun fb => by kernel_rfl) h996 ?_
   refine WC.exit ?_
   injection hl995 with hl995
   exact WX.thenX (WX.thenX (WX.blockHere (WX.to Kx990 ((l977, l981), A975, c976, H978, A979, c980) [2, 4] rfl ⟨(hS994.subR [0, 1, 2, 3]).sub [0, 1, 2, 3, 4] (by decide), hl995.symm⟩)))
 rintro ⟨y1079, A983, c984, H986, A987, c988⟩ w1076 ⟨hS1077, hq1078⟩
 subst hq1078
 injection hf with hf
 subst hf
 exact WX.end_ [] (.tuple #[]) [] (fun fb => by kernel_rfl) trivial ⟨_, rfl, A983, c984, H986, A987, c988, rfl, (hS1077.sub [0, 1, 2, 3, 4] (by decide)).noR⟩
theorem rows_All_calls (k : Nat) (p0 : List Tile) (p1 : Int) (A_p0 : Option Addr) (c_p0 : Nat) (r : (List Row)) (w : World) (hR0 : RO NoS w (rowR enc_Tile A_p0 c_p0 p0)) (hf : rows_All k p0 p1 = some r) :
  CallsR Try.prog 67 #[(.slice A_p0 p0.length c_p0), (iv p1)] w (fun v w' => ∃ (A1_ : Option Addr), ∃ (c1_ : Nat), ∃ (h1_ : Nat → HF), v = (.slice A1_ r.length c1_) ∧ St NoS w w' [] [rowO 88 encN_Row A1_ c1_ (tag h1_ r), poolO [nestO subN_Row h1_ r]]) := by
 have hS : St NoS w w [rowR enc_Tile A_p0 c_p0 p0] [] := St.init (ro_cons hR0 (ro_nil _ _))
 refine enter 14 Try.func67 rfl Try.ntmps67 rfl ?_
 unfold rows_All at hf
 refine WC.seq ?_
 refine WC.region ?_
 refine WL.new hS 2 [] (fun g => (.pointer (some ⟨g, 0, none⟩))) (.cells #[(.slice A_p0 p0.length c_p0)] 22 (0, 0)) [] (fun fb g => by kernel_rfl) trivial (fun g402 w403 hS404 => ?_)
 refine ⟨trivial, ?_⟩
 refine WL.new hS404 3 [] (fun g => (.pointer (some ⟨g, 0, none⟩))) (.cells #[(iv p1)] 3 (0, 0)) [] (fun fb g => by kernel_rfl) trivial (fun g406 w407 hS408 => ?_)
 refine ⟨trivial, ?_⟩
 refine seg 3 [] [2, 3] [(2, (pt g402)), (3, (pt g406))] [] (fun fb => by kernel_rfl) rfl trivial ?_
 refine WL.done rfl ?_
 refine WX.next ?_
 refine WC.seq ?_
 refine WC.region ?_
 refine WL.new hS408 5 [] (fun g => (.pointer (some ⟨g, 0, none⟩))) (.cells #[(.slice none 0 0)] 82 (0, 0)) [] (fun fb g => by kernel_rfl) trivial (fun g410 w411 hS412 => ?_)
 refine ⟨trivial, ?_⟩
 refine WL.done rfl ?_
 refine WX.next ?_
 refine WC.seq ?_
 refine WC.region ?_
 refine seg 1 [.v (iv p1)] [2, 3, 5, 8] [(2, (pt g402)), (3, (pt g406)), (5, (pt g410)), (8, (iv p1))] [.cell ⟨g406, 0, none⟩ (iv p1)] (fun fb => by kernel_rfl) rfl ⟨hS412.cell 1 rfl 0 rfl, trivial⟩ ?_
 obtain ⟨h414, hf⟩ := as_some hf
 refine WL.make hS412 (e := encInt) (T := 3) (tS := 36) (z := (iv 0)) (bytes := 8) (d := 9) (0 : Int) p1 (fun fb => by kernel_rfl) (by kernel_rfl) (by kernel_rfl) rfl (by decide) h414 (by decide) (fun g415 w416 hS417 => ?_)
 refine ⟨trivial, ?_⟩
 refine WL.new hS417 6 [] (fun g => (.pointer (some ⟨g, 0, none⟩))) (.cells #[(.slice none 0 0)] 36 (0, 0)) [] (fun fb g => by kernel_rfl) trivial (fun g418 w419 hS420 => ?_)
 refine ⟨trivial, ?_⟩
 refine WL.store hS420 0 rfl [(0, (.slice (some ⟨g415, 0, none⟩) (List.replicate p1.toNat (0 : Int)).length p1.toNat))] #[(.slice (some ⟨g415, 0, none⟩) (List.replicate p1.toNat (0 : Int)).length p1.toNat)] (fun fb => by kernel_rfl) (by kernel_rfl) rfl [1, 2, 3, 4] (by decide) (by decide) (fun w422 hS423 => ?_)
 refine ⟨trivial, ?_⟩
 refine WL.done rfl ?_
 refine WX.next ?_
 refine WC.seq ?_
 refine WC.region ?_
 refine WL.new hS423 7 [] (fun g => (.pointer (some ⟨g, 0, none⟩))) (.cells #[.nilFunc] 115 (0, 0)) [] (fun fb g => by kernel_rfl) trivial (fun g424 w425 hS426 => ?_)
 refine ⟨trivial, ?_⟩
 refine WL.done rfl ?_
 refine WX.next ?_
 refine WC.seq ?_
 refine WC.region ?_
 refine seg 1 [] [5, 7, 10] [(5, (pt g410)), (7, (pt g424)), (10, (.func (.func 82) #[] #[(pt g406), (pt g410), (pt g402), (pt g418), (pt g424)]))] [] (fun fb => by kernel_rfl) rfl trivial ?_
 refine WL.store hS426 0 rfl [(0, (.func (.func 82) #[] #[(pt g406), (pt g410), (pt g402), (pt g418), (pt g424)]))] #[(.func (.func 82) #[] #[(pt g406), (pt g410), (pt g402), (pt g418), (pt g424)])] (fun fb => by kernel_rfl) (by kernel_rfl) rfl [1, 2, 3, 4, 5] (by decide) (by decide) (fun w428 hS429 => ?_)
 refine ⟨trivial, ?_⟩
 refine WL.done rfl ?_
 refine WX.next ?_
 refine WC.seq ?_
 refine WC.region ?_
 refine seg 1 [.v (.func (.func 82) #[] #[(pt g406), (pt g410), (pt g402), (pt g418), (pt g424)])] [5, 11] [(5, (pt g410)), (11, (.func (.func 82) #[] #[(pt g406), (pt g410), (pt g402), (pt g418), (pt g424)]))] [.cell ⟨g424, 0, none⟩ (.func (.func 82) #[] #[(pt g406), (pt g410), (pt g402), (pt g418), (pt g424)])] (fun fb => by kernel_rfl) rfl ⟨hS429.cell 0 rfl 0 rfl, trivial⟩ ?_
 have hS1080 : St NoS w w428 [rowR enc_Tile A_p0 c_p0 p0] [rowO 88 encN_Row none 0 (tag h0 ([] : List Row)), blk g424 (.cells #[(.func (.func 82) #[] #[(pt g406), (pt g410), (pt g402), (pt g418), (pt g424)])] 115 (0, 0)), blk g418 (.cells #[(.slice (some ⟨g415, 0, none⟩) (List.replicate p1.toNat (0 : Int)).length p1.toNat)] 36 (0, 0)), rowO 3 encInt (some ⟨g415, 0, none⟩) p1.toNat (List.replicate p1.toNat (0 : Int)), blk g410 (.cells #[(.slice none 0 0)] 82 (0, 0)), blk g406 (.cells #[(iv p1)] 3 (0, 0)), blk g402 (.cells #[(.slice A_p0 p0.length c_p0)] 22 (0, 0))] := hS429.nilrow 88 encN_Row
 have hS1081 := hS1080.poolNil subN_Row h0
 obtain ⟨t1082, ht1083, hf⟩ := bind_some hf
 refine WL.call (some 12) 82 #[(iv 0), (pt g406), (pt g410), (pt g402), (pt g418), (pt g424)] (fun fb => by kernel_rfl) (rows_All_1_calls _ 0 p1 ([] : List Row) p0 (List.replicate p1.toNat (0 : Int)) g406 g410 none 0 h0 g402 A_p0 c_p0 g418 (some ⟨g415, 0, none⟩) p1.toNat g424 t1082 _ (hS1081.owT [5, 1, 0, 3, 4] 6 (by decide)) (hS1081.owT [5, 1, 0, 3, 4] 7 (by decide)) (hS1081.rdT [5, 1, 0, 3, 4] 0) (hS1081.owT [5, 1, 0, 3, 4] 2 (by decide)) (hS1081.io [5, 1, 0, 3, 4] (by decide)) ht1083) (fun v w1084 hR1085 => ?_)
 obtain ⟨A1087, c1088, H1089, A1090, c1091, rfl, hk_⟩ := hR1085
 have hS1086 : St NoS w w1084 [rowR enc_Tile A_p0 c_p0 p0] [blk g410 (.cells #[(.slice A1087 t1082.1.length c1088)] 82 (0, 0)), rowO 88 encN_Row A1087 c1088 (tag H1089 t1082.1), poolO [nestO subN_Row H1089 t1082.1], blk g418 (.cells #[(.slice A1090 t1082.2.length c1091)] 36 (0, 0)), rowO 3 encInt A1090 c1091 t1082.2, blk g424 (.cells #[(.func (.func 82) #[] #[(pt g406), (pt g410), (pt g402), (pt g418), (pt g424)])] 115 (0, 0)), blk g406 (.cells #[(iv p1)] 3 (0, 0)), blk g402 (.cells #[(.slice A_p0 p0.length c_p0)] 22 (0, 0))] := hS1081.call hk_ [5, 1, 0, 3, 4] [2, 6, 7] (fun g hg => fpL_sel g hg) (by decide) (by decide)
 refine ⟨trivial, ?_⟩
 refine WL.done rfl ?_
 refine WX.next ?_
 refine WC.seq ?_
 refine WC.region ?_
 refine seg 2 [.v (.slice A1087 t1082.1.length c1088)] [4] [(4, (.slice A1087 t1082.1.length c1088))] [.cell ⟨g410, 0, none⟩ (.slice A1087 t1082.1.length c1088)] (fun fb => by kernel_rfl) rfl ⟨hS1086.cell 0 rfl 0 rfl, trivial⟩ ?_
 refine WL.done rfl ?_
 refine WX.next ?_
 refine WC.ret ?_
 injection hf with hf
 subst hf
 exact WX.ret_ [] (.slice A1087 t1082.1.length c1088) [] (fun fb => by kernel_rfl) trivial ⟨_, rfl, A1087, c1088, H1089, rfl, (hS1086.sub [1, 2] (by decide)).noR⟩
theorem fill_begin_calls (k : Nat) (p0 : List Tile) (p1 : Int) (p2 : Int) (p3 : Edges) (A_p0 : Option Addr) (c_p0 : Nat) (A_p3_North : Option Addr) (c_p3_North : Nat) (A_p3_East : Option Addr) (c_p3_East : Nat) (A_p3_South : Option Addr) (c_p3_South : Nat) (A_p3_West : Option Addr) (c_p3_West : Nat) (r : (Option Job) × Int) (w : World) (hR0 : RO NoS w (rowR enc_Tile A_p0 c_p0 p0)) (hR1 : RO NoS w (rowR encInt A_p3_North c_p3_North p3.North)) (hR2 : RO NoS w (rowR encInt A_p3_East c_p3_East p3.East)) (hR3 : RO NoS w (rowR encInt A_p3_South c_p3_South p3.South)) (hR4 : RO NoS w (rowR encInt A_p3_West c_p3_West p3.West)) (hf : fill_begin k p0 p1 p2 p3 = some r) :
  CallsR Try.prog 54 #[(.slice A_p0 p0.length c_p0), (iv p1), (iv p2), (.agg #[(.slice A_p3_North p3.North.length c_p3_North), (.slice A_p3_East p3.East.length c_p3_East), (.slice A_p3_South p3.South.length c_p3_South), (.slice A_p3_West p3.West.length c_p3_West)])] w (fun v w' => ∃ (g1_ : Nat), ∃ (A2_ : Option Addr), ∃ (c2_ : Nat), ∃ (h2_ : Nat → HF), v = (.tuple #[(optP r.1 g1_), (iv r.2)]) ∧ optS r.1 (Keeps NoS w w') (fun y_ => St NoS w w' [] [blk g1_ (.cells #[(.slice A2_ y_.rows.length c2_), (iv y_.width), (iv y_.height), (.slice A_p3_North p3.North.length c_p3_North), (.slice A_p3_East p3.East.length c_p3_East), (.slice A_p3_South p3.South.length c_p3_South), (.slice A_p3_West p3.West.length c_p3_West)] 84 (0, 0)), rowO 88 encN_Row A2_ c2_ (tag h2_ y_.rows), poolO [nestO subN_Row h2_ y_.rows]])) := by
 have hS : St NoS w w [rowR enc_Tile A_p0 c_p0 p0, rowR encInt A_p3_North c_p3_North p3.North, rowR encInt A_p3_East c_p3_East p3.East, rowR encInt A_p3_South c_p3_South p3.South, rowR encInt A_p3_West c_p3_West p3.West] [] := St.init (ro_cons hR0 (ro_cons hR1 (ro_cons hR2 (ro_cons hR3 (ro_cons hR4 (ro_nil _ _))))))
 refine enter 76 Try.func54 rfl Try.ntmps54 rfl ?_
 unfold fill_begin at hf
 refine WC.seq ?_
 refine WC.region ?_
 refine WL.new hS 7 [] (fun g => (.pointer (some ⟨g, 0, none⟩))) (.cells #[(.slice A_p3_North p3.North.length c_p3_North), (.slice A_p3_East p3.East.length c_p3_East), (.slice A_p3_South p3.South.length c_p3_South), (.slice A_p3_West p3.West.length c_p3_West)] 57 (0, 0)) [] (fun fb g => by kernel_rfl) trivial (fun g1118 w1119 hS1120 => ?_)
 refine ⟨trivial, ?_⟩
 refine seg 3 [] [0, 1, 2, 7] [(0, (.slice A_p0 p0.length c_p0)), (1, (iv p1)), (2, (iv p2)), (7, (pt g1118))] [] (fun fb => by kernel_rfl) rfl trivial ?_
 refine WL.done rfl ?_
 refine WX.next ?_
 refine WC.seq ?_
 refine WC.seq ?_
 refine WC.region ?_
 refine seg 1 [] [0, 1, 2, 7, 12] [(0, (.slice A_p0 p0.length c_p0)), (1, (iv p1)), (2, (iv p2)), (7, (pt g1118)), (12, (.slice A_p0 p0.length c_p0))] [] (fun fb => by kernel_rfl) rfl trivial ?_
 obtain ⟨t1122, ht1123, hf⟩ := bind_some hf
 refine WL.call (some 13) 38 #[(.slice A_p0 p0.length c_p0)] (fun fb => by kernel_rfl) (tile_Valid_calls _ p0 A_p0 c_p0 t1122 _ (hS1120.rd 0) ht1123) (fun v w1124 hR1125 => ?_)
 obtain ⟨rfl, hk_⟩ := hR1125
 have hS1126 := hS1120.keepN hk_
 refine ⟨trivial, ?_⟩
 refine seg 3 [] [0, 1, 2, 7, 14] [(0, (.slice A_p0 p0.length c_p0)), (1, (iv p1)), (2, (iv p2)), (7, (pt g1118)), (14, (.bool (!t1122)))] [] (fun fb => by kernel_rfl) rfl trivial ?_
 refine WL.done rfl ?_
 refine WX.next ?_
 rcases br_some hf with ⟨h1127, hf⟩ | ⟨h1127, hf⟩
 ·refine WC.condT2 (fun fb => by kernel_rfl) h1127 ?_
  refine WC.seq ?_
  refine WC.region ?_
  refine seg 2 [] [8, 9] [(8, (.pointer none)), (9, (iv 1))] [] (fun fb => by kernel_rfl) rfl trivial ?_
  refine WL.done rfl ?_
  refine WX.next ?_
  refine WC.ret ?_
  injection hf with hf
  subst hf
  exact WX.thenR (WX.ret_ [] (.tuple #[(.pointer none), (iv 1)]) [] (fun fb => by kernel_rfl) trivial ⟨_, rfl, 0, none, 0, h0, rfl, hS1126.keep⟩)
 refine WC.condF2 (fun fb => by kernel_rfl) h1127 ?_
 refine WC.skip ?_
 refine WX.next ?_
 refine WC.seq ?_
 refine WC.seq ?_
 refine WC.region ?_
 refine seg 3 [] [0, 1, 2, 7, 17] [(0, (.slice A_p0 p0.length c_p0)), (1, (iv p1)), (2, (iv p2)), (7, (pt g1118)), (17, (.bool (decide (p1 < 1))))] [] (fun fb => by kernel_rfl) rfl trivial ?_
 refine WL.cutV (T := Bool) 6 (fun t => [(20, (.bool t)), (0, (.slice A_p0 p0.length c_p0)), (1, (iv p1)), (2, (iv p2)), (7, (pt g1118))]) (fun t => ((decide (p1 < 1)) || (decide (p1 > 8))) = t) (fun K => ?_) ?_
 ·
  rcases Bool.eq_false_or_eq_true (decide (p1 < 1)) with h1128 | h1128
  ·
   refine WL.setB 17 h1128 rfl ?_
   refine seg 6 [] [0, 1, 2, 7, 20] [(0, (.slice A_p0 p0.length c_p0)), (1, (iv p1)), (2, (iv p2)), (7, (pt g1118)), (20, (.bool true))] [] (fun fb => by kernel_rfl) rfl trivial ?_
   exact WL.toV K true [20, 0, 1, 2, 7] rfl (by first | (rw [h1128]; done) | (rw [h1128]; rfl))
  refine WL.setB 17 h1128 rfl ?_
  refine seg 6 [] [0, 1, 2, 7, 20] [(0, (.slice A_p0 p0.length c_p0)), (1, (iv p1)), (2, (iv p2)), (7, (pt g1118)), (20, (.bool (decide (p1 > 8))))] [] (fun fb => by kernel_rfl) rfl trivial ?_
  exact WL.toV K (decide (p1 > 8)) [20, 0, 1, 2, 7] rfl (by first | (rw [h1128]; done) | (rw [h1128]; rfl))
 rintro b1129 rfl
 refine seg 7 [] [0, 1, 2, 7, 21] [(0, (.slice A_p0 p0.length c_p0)), (1, (iv p1)), (2, (iv p2)), (7, (pt g1118)), (21, (.bool ((decide (p1 < 1)) || (decide (p1 > 8)))))] [] (fun fb => by kernel_rfl) rfl trivial ?_
 refine WL.cutV (T := Bool) 10 (fun t => [(24, (.bool t)), (0, (.slice A_p0 p0.length c_p0)), (1, (iv p1)), (2, (iv p2)), (7, (pt g1118))]) (fun t => (((decide (p1 < 1)) || (decide (p1 > 8))) || (decide (p2 < 1))) = t) (fun K => ?_) ?_
 ·
  rcases Bool.eq_false_or_eq_true ((decide (p1 < 1)) || (decide (p1 > 8))) with h1130 | h1130
  ·
   refine WL.setB 21 h1130 rfl ?_
   refine seg 10 [] [0, 1, 2, 7, 24] [(0, (.slice A_p0 p0.length c_p0)), (1, (iv p1)), (2, (iv p2)), (7, (pt g1118)), (24, (.bool true))] [] (fun fb => by kernel_rfl) rfl trivial ?_
   exact WL.toV K true [24, 0, 1, 2, 7] rfl (by first | (rw [h1130]; done) | (rw [h1130]; rfl))
  refine WL.setB 21 h1130 rfl ?_
  refine seg 10 [] [0, 1, 2, 7, 24] [(0, (.slice A_p0 p0.length c_p0)), (1, (iv p1)), (2, (iv p2)), (7, (pt g1118)), (24, (.bool (decide (p2 < 1))))] [] (fun fb => by kernel_rfl) rfl trivial ?_
  exact WL.toV K (decide (p2 < 1)) [24, 0, 1, 2, 7] rfl (by first | (rw [h1130]; done) | (rw [h1130]; rfl))
 rintro b1131 rfl
 refine seg 11 [] [0, 1, 2, 7, 25] [(0, (.slice A_p0 p0.length c_p0)), (1, (iv p1)), (2, (iv p2)), (7, (pt g1118)), (25, (.bool (((decide (p1 < 1)) || (decide (p1 > 8))) || (decide (p2 < 1)))))] [] (fun fb => by kernel_rfl) rfl trivial ?_
 refine WL.cutV (T := Bool) 14 (fun t => [(28, (.bool t)), (0, (.slice A_p0 p0.length c_p0)), (1, (iv p1)), (2, (iv p2)), (7, (pt g1118))]) (fun t => ((((decide (p1 < 1)) || (decide (p1 > 8))) || (decide (p2 < 1))) || (decide (p2 > 60))) = t) (fun K => ?_) ?_
 ·
  rcases Bool.eq_false_or_eq_true (((decide (p1 < 1)) || (decide (p1 > 8))) || (decide (p2 < 1))) with h1132 | h1132
  ·
   refine WL.setB 25 h1132 rfl ?_
   refine seg 14 [] [0, 1, 2, 7, 28] [(0, (.slice A_p0 p0.length c_p0)), (1, (iv p1)), (2, (iv p2)), (7, (pt g1118)), (28, (.bool true))] [] (fun fb => by kernel_rfl) rfl trivial ?_
   exact WL.toV K true [28, 0, 1, 2, 7] rfl (by first | (rw [h1132]; done) | (rw [h1132]; rfl))
  refine WL.setB 25 h1132 rfl ?_
  refine seg 14 [] [0, 1, 2, 7, 28] [(0, (.slice A_p0 p0.length c_p0)), (1, (iv p1)), (2, (iv p2)), (7, (pt g1118)), (28, (.bool (decide (p2 > 60))))] [] (fun fb => by kernel_rfl) rfl trivial ?_
  exact WL.toV K (decide (p2 > 60)) [28, 0, 1, 2, 7] rfl (by first | (rw [h1132]; done) | (rw [h1132]; rfl))
 rintro b1133 rfl
 refine WL.done rfl ?_
 refine WX.next ?_
 rcases br_some hf with ⟨h1134, hf⟩ | ⟨h1134, hf⟩
 ·refine WC.condT2 (fun fb => by kernel_rfl) h1134 ?_
  refine WC.seq ?_
  refine WC.region ?_
  refine seg 2 [] [8, 9] [(8, (.pointer none)), (9, (iv 2))] [] (fun fb => by kernel_rfl) rfl trivial ?_
  refine WL.done rfl ?_
  refine WX.next ?_
  refine WC.ret ?_
  injection hf with hf
  subst hf
  exact WX.thenR (WX.ret_ [] (.tuple #[(.pointer none), (iv 2)]) [] (fun fb => by kernel_rfl) trivial ⟨_, rfl, 0, none, 0, h0, rfl, hS1126.keep⟩)
 refine WC.condF2 (fun fb => by kernel_rfl) h1134 ?_
 refine WC.skip ?_
 refine WX.next ?_
 refine WC.seq ?_
 refine WC.seq ?_
 refine WC.region ?_
 refine seg 16 [.v (.slice A_p3_North p3.North.length c_p3_North), .v (.slice A_p3_South p3.South.length c_p3_South), .v (.slice A_p3_East p3.East.length c_p3_East), .v (.slice A_p3_West p3.West.length c_p3_West)] [0, 1, 2, 7, 32, 36, 40, 44] [(0, (.slice A_p0 p0.length c_p0)), (1, (iv p1)), (2, (iv p2)), (7, (pt g1118)), (32, (.agg #[(.slice A_p3_North p3.North.length c_p3_North), (iv p1)])), (36, (.agg #[(.slice A_p3_South p3.South.length c_p3_South), (iv p1)])), (40, (.agg #[(.slice A_p3_East p3.East.length c_p3_East), (iv p2)])), (44, (.agg #[(.slice A_p3_West p3.West.length c_p3_West), (iv p2)]))] [.cell ⟨g1118, 0, none⟩ (.slice A_p3_North p3.North.length c_p3_North), .cell ⟨g1118, 2, none⟩ (.slice A_p3_South p3.South.length c_p3_South), .cell ⟨g1118, 1, none⟩ (.slice A_p3_East p3.East.length c_p3_East), .cell ⟨g1118, 3, none⟩ (.slice A_p3_West p3.West.length c_p3_West)] (fun fb => by kernel_rfl) rfl ⟨hS1126.cell 0 rfl 0 rfl, hS1126.cell 0 rfl 2 rfl, hS1126.cell 0 rfl 1 rfl, hS1126.cell 0 rfl 3 rfl, trivial⟩ ?_
 refine WL.new hS1126 45 [] (fun g => (.slice (some ⟨g, 0, none⟩) 4 4)) (.cells #[(.slice A_p3_North p3.North.length c_p3_North), (iv p1), (.slice A_p3_South p3.South.length c_p3_South), (iv p1), (.slice A_p3_East p3.East.length c_p3_East), (iv p2), (.slice A_p3_West p3.West.length c_p3_West), (iv p2)] 108 (0, 0)) [] (fun fb g => by kernel_rfl) trivial (fun g1135 w1136 hS1137 => ?_)
 refine ⟨trivial, ?_⟩
 have hS1140 : St NoS w w1136 [nestO subN_S_side_n (hlN [(hd1 A_p3_North c_p3_North), (hd1 A_p3_South c_p3_South), (hd1 A_p3_East c_p3_East), (hd1 A_p3_West c_p3_West)]) [(S_side_n.mk p3.North p1), (S_side_n.mk p3.South p1), (S_side_n.mk p3.East p2), (S_side_n.mk p3.West p2)], rowR enc_Tile A_p0 c_p0 p0, rowR encInt A_p3_North c_p3_North p3.North, rowR encInt A_p3_East c_p3_East p3.East, rowR encInt A_p3_South c_p3_South p3.South, rowR encInt A_p3_West c_p3_West p3.West] [blk g1135 (.cells #[(.slice A_p3_North p3.North.length c_p3_North), (iv p1), (.slice A_p3_South p3.South.length c_p3_South), (iv p1), (.slice A_p3_East p3.East.length c_p3_East), (iv p2), (.slice A_p3_West p3.West.length c_p3_West), (iv p2)] 108 (0, 0)), blk g1118 (.cells #[(.slice A_p3_North p3.North.length c_p3_North), (.slice A_p3_East p3.East.length c_p3_East), (.slice A_p3_South p3.South.length c_p3_South), (.slice A_p3_West p3.West.length c_p3_West)] 57 (0, 0))] := hS1137.addR _ (nestO_cons (hS1137.rdL 1) (nestO_cons (hS1137.rdL 3) (nestO_cons (hS1137.rdL 2) (nestO_cons (hS1137.rdL 4) (nestO_nil _ _ _ _)))))
 have hS1139 : St NoS w w1136 [nestO subN_S_side_n (hlN [(hd1 A_p3_North c_p3_North), (hd1 A_p3_South c_p3_South), (hd1 A_p3_East c_p3_East), (hd1 A_p3_West c_p3_West)]) [(S_side_n.mk p3.North p1), (S_side_n.mk p3.South p1), (S_side_n.mk p3.East p2), (S_side_n.mk p3.West p2)], rowR enc_Tile A_p0 c_p0 p0, rowR encInt A_p3_North c_p3_North p3.North, rowR encInt A_p3_East c_p3_East p3.East, rowR encInt A_p3_South c_p3_South p3.South, rowR encInt A_p3_West c_p3_West p3.West] [rowO 108 encN_S_side_n (some ⟨g1135, 0, none⟩) 4 (tag (hlN [(hd1 A_p3_North c_p3_North), (hd1 A_p3_South c_p3_South), (hd1 A_p3_East c_p3_East), (hd1 A_p3_West c_p3_West)]) [(S_side_n.mk p3.North p1), (S_side_n.mk p3.South p1), (S_side_n.mk p3.East p2), (S_side_n.mk p3.West p2)]), blk g1118 (.cells #[(.slice A_p3_North p3.North.length c_p3_North), (.slice A_p3_East p3.East.length c_p3_East), (.slice A_p3_South p3.South.length c_p3_South), (.slice A_p3_West p3.West.length c_p3_West)] 57 (0, 0))] := hS1140.map1 0 _ (fun h => rowO.ofBlk h rfl (Nat.le_of_ble_eq_true (by kernel_rfl))) (fun _ h => by obtain ⟨_, h1, h2⟩ := h; injection h1 with h1; subst h1; exact h2) [1] (by decide) (by decide)
 refine seg 19 [] [0, 1, 2, 7, 45, 46, 47] [(0, (.slice A_p0 p0.length c_p0)), (1, (iv p1)), (2, (iv p2)), (7, (pt g1118)), (45, (.slice (some ⟨g1135, 0, none⟩) [(S_side_n.mk p3.North p1), (S_side_n.mk p3.South p1), (S_side_n.mk p3.East p2), (S_side_n.mk p3.West p2)].length 4)), (46, (iv ([(S_side_n.mk p3.North p1), (S_side_n.mk p3.South p1), (S_side_n.mk p3.East p2), (S_side_n.mk p3.West p2)].length : Int))), (47, (iv 0))] [] (fun fb => by kernel_rfl) rfl trivial ?_
 refine WL.done rfl ?_
 refine WX.next ?_
 obtain ⟨x1165, hx1166, hf⟩ := bind_some hf
 refine WC.cutN (T := Unit) (fun t => [(0, (.slice A_p0 p0.length c_p0)), (1, (iv p1)), (2, (iv p2)), (7, (pt g1118))]) (fun t w1 => St NoS w w1 [nestO subN_S_side_n (hlN [(hd1 A_p3_North c_p3_North), (hd1 A_p3_South c_p3_South), (hd1 A_p3_East c_p3_East), (hd1 A_p3_West c_p3_West)]) [(S_side_n.mk p3.North p1), (S_side_n.mk p3.South p1), (S_side_n.mk p3.East p2), (S_side_n.mk p3.West p2)], rowR enc_Tile A_p0 c_p0 p0, rowR encInt A_p3_North c_p3_North p3.North, rowR encInt A_p3_East c_p3_East p3.East, rowR encInt A_p3_South c_p3_South p3.South, rowR encInt A_p3_West c_p3_West p3.West] [blk g1118 (.cells #[(.slice A_p3_North p3.North.length c_p3_North), (.slice A_p3_East p3.East.length c_p3_East), (.slice A_p3_South p3.South.length c_p3_South), (.slice A_p3_West p3.West.length c_p3_West)] 57 (0, 0))] ∧ x1165 = .inr t) (fun Kx1165 => ?_) ?_
 ·
  refine WC.block ?_
  refine WC.loop (T := Int) (fun t => [(0, (.slice A_p0 p0.length c_p0)), (1, (iv p1)), (2, (iv p2)), (7, (pt g1118)), (45, (.slice (some ⟨g1135, 0, none⟩) [(S_side_n.mk p3.North p1), (S_side_n.mk p3.South p1), (S_side_n.mk p3.East p2), (S_side_n.mk p3.West p2)].length 4)), (46, (iv ([(S_side_n.mk p3.North p1), (S_side_n.mk p3.South p1), (S_side_n.mk p3.East p2), (S_side_n.mk p3.West p2)].length : Int))), (47, (iv t))]) (fun n t w1 => St NoS w w1 [nestO subN_S_side_n (hlN [(hd1 A_p3_North c_p3_North), (hd1 A_p3_South c_p3_South), (hd1 A_p3_East c_p3_East), (hd1 A_p3_West c_p3_West)]) [(S_side_n.mk p3.North p1), (S_side_n.mk p3.South p1), (S_side_n.mk p3.East p2), (S_side_n.mk p3.West p2)], rowR enc_Tile A_p0 c_p0 p0, rowR encInt A_p3_North c_p3_North p3.North, rowR encInt A_p3_East c_p3_East p3.East, rowR encInt A_p3_South c_p3_South p3.South, rowR encInt A_p3_West c_p3_West p3.West] [blk g1118 (.cells #[(.slice A_p3_North p3.North.length c_p3_North), (.slice A_p3_East p3.East.length c_p3_East), (.slice A_p3_South p3.South.length c_p3_South), (.slice A_p3_West p3.West.length c_p3_West)] 57 (0, 0)), rowO 108 encN_S_side_n (some ⟨g1135, 0, none⟩) 4 (tag (hlN [(hd1 A_p3_North c_p3_North), (hd1 A_p3_South c_p3_South), (hd1 A_p3_East c_p3_East), (hd1 A_p3_West c_p3_West)]) [(S_side_n.mk p3.North p1), (S_side_n.mk p3.South p1), (S_side_n.mk p3.East p2), (S_side_n.mk p3.West p2)])] ∧ fill_begin.l0 n t p1 p2 p3 = some x1165) k 0 [0, 1, 2, 7, 45, 46, 47] rfl ⟨(hS1139.subR [0, 1, 2, 3, 4, 5]).sub [1, 0] (by decide), hx1166⟩ ?_
  rintro k1167 x1164 w1168 ⟨hS1169, hl1170⟩
  cases k1167 with
  | zero => rw [fill_begin.l0] at hl1170; cases hl1170
  | succ k1167 =>
   rw [fill_begin.l0] at hl1170
   refine WC.seq ?_
   refine WC.region ?_
   refine seg 1 [] [0, 1, 2, 7, 45, 46, 47, 48] [(0, (.slice A_p0 p0.length c_p0)), (1, (iv p1)), (2, (iv p2)), (7, (pt g1118)), (45, (.slice (some ⟨g1135, 0, none⟩) [(S_side_n.mk p3.North p1), (S_side_n.mk p3.South p1), (S_side_n.mk p3.East p2), (S_side_n.mk p3.West p2)].length 4)), (46, (iv ([(S_side_n.mk p3.North p1), (S_side_n.mk p3.South p1), (S_side_n.mk p3.East p2), (S_side_n.mk p3.West p2)].length : Int))), (47, (iv x1164)), (48, (.bool (decide (x1164 < ([(S_side_n.mk p3.North p1), (S_side_n.mk p3.South p1), (S_side_n.mk p3.East p2), (S_side_n.mk p3.West p2)].length : Int)))))] [] (fun fb => by kernel_rfl) rfl trivial ?_
   refine WL.done rfl ?_
   refine WX.next ?_
   refine WC.seq ?_
   rcases br_some hl1170 with ⟨h1171, hl1170⟩ | ⟨h1171, hl1170⟩
   ·refine WC.condT2 (fun fb => by kernel_rfl) h1171 ?_
    refine WC.skip ?_
    refine WX.next ?_
    refine WC.seq ?_
    refine WC.block ?_
    refine WC.seq ?_
    refine WC.region ?_
    obtain ⟨h1172, hl1170⟩ := as_some hl1170
    refine seg 2 [.v (.slice (((hlN [(hd1 A_p3_North c_p3_North), (hd1 A_p3_South c_p3_South), (hd1 A_p3_East c_p3_East), (hd1 A_p3_West c_p3_West)]) x1164.toNat 0).1) ((rdD [(S_side_n.mk p3.North p1), (S_side_n.mk p3.South p1), (S_side_n.mk p3.East p2), (S_side_n.mk p3.West p2)] x1164 z_S_side_n).side).length (((hlN [(hd1 A_p3_North c_p3_North), (hd1 A_p3_South c_p3_South), (hd1 A_p3_East c_p3_East), (hd1 A_p3_West c_p3_West)]) x1164.toNat 0).2)), .v (iv ((rdD [(S_side_n.mk p3.North p1), (S_side_n.mk p3.South p1), (S_side_n.mk p3.East p2), (S_side_n.mk p3.West p2)] x1164 z_S_side_n).n))] [0, 1, 2, 7, 45, 46, 47, 50] [(0, (.slice A_p0 p0.length c_p0)), (1, (iv p1)), (2, (iv p2)), (7, (pt g1118)), (45, (.slice (some ⟨g1135, 0, none⟩) [(S_side_n.mk p3.North p1), (S_side_n.mk p3.South p1), (S_side_n.mk p3.East p2), (S_side_n.mk p3.West p2)].length 4)), (46, (iv ([(S_side_n.mk p3.North p1), (S_side_n.mk p3.South p1), (S_side_n.mk p3.East p2), (S_side_n.mk p3.West p2)].length : Int))), (47, (iv x1164)), (50, (.agg #[(.slice (((hlN [(hd1 A_p3_North c_p3_North), (hd1 A_p3_South c_p3_South), (hd1 A_p3_East c_p3_East), (hd1 A_p3_West c_p3_West)]) x1164.toNat 0).1) ((rdD [(S_side_n.mk p3.North p1), (S_side_n.mk p3.South p1), (S_side_n.mk p3.East p2), (S_side_n.mk p3.West p2)] x1164 z_S_side_n).side).length (((hlN [(hd1 A_p3_North c_p3_North), (hd1 A_p3_South c_p3_South), (hd1 A_p3_East c_p3_East), (hd1 A_p3_West c_p3_West)]) x1164.toNat 0).2)), (iv ((rdD [(S_side_n.mk p3.North p1), (S_side_n.mk p3.South p1), (S_side_n.mk p3.East p2), (S_side_n.mk p3.West p2)] x1164 z_S_side_n).n))]))] [.idx (some ⟨g1135, 0, none⟩) x1164 [(S_side_n.mk p3.North p1), (S_side_n.mk p3.South p1), (S_side_n.mk p3.East p2), (S_side_n.mk p3.West p2)].length, .cell ((adr (some ⟨g1135, 0, none⟩)).add ((x1164).toNat * 2)) (.slice (((hlN [(hd1 A_p3_North c_p3_North), (hd1 A_p3_South c_p3_South), (hd1 A_p3_East c_p3_East), (hd1 A_p3_West c_p3_West)]) x1164.toNat 0).1) ((rdD [(S_side_n.mk p3.North p1), (S_side_n.mk p3.South p1), (S_side_n.mk p3.East p2), (S_side_n.mk p3.West p2)] x1164 z_S_side_n).side).length (((hlN [(hd1 A_p3_North c_p3_North), (hd1 A_p3_South c_p3_South), (hd1 A_p3_East c_p3_East), (hd1 A_p3_West c_p3_West)]) x1164.toNat 0).2)), .cell (((adr (some ⟨g1135, 0, none⟩)).add ((x1164).toNat * 2)).add 1) (iv ((rdD [(S_side_n.mk p3.North p1), (S_side_n.mk p3.South p1), (S_side_n.mk p3.East p2), (S_side_n.mk p3.West p2)] x1164 z_S_side_n).n))] (fun fb => by kernel_rfl) rfl ⟨nrow_adr (rowO.rd (hS1169.own 1).1) h1172.1 h1172.2, nrow_cell (rowO.rd (hS1169.own 1).1) z_S_side_n h1172.1 h1172.2 0 rfl, nrow_cell (rowO.rd (hS1169.own 1).1) z_S_side_n h1172.1 h1172.2 1 rfl, trivial⟩ ?_
    refine WL.new hS1169 11 [] (fun g => (.pointer (some ⟨g, 0, none⟩))) (.cells #[(.slice none 0 0), (iv 0)] 108 (0, 0)) [] (fun fb g => by kernel_rfl) trivial (fun g1173 w1174 hS1175 => ?_)
    refine ⟨trivial, ?_⟩
    refine WL.store hS1175 0 rfl [(0, (.slice (((hlN [(hd1 A_p3_North c_p3_North), (hd1 A_p3_South c_p3_South), (hd1 A_p3_East c_p3_East), (hd1 A_p3_West c_p3_West)]) x1164.toNat 0).1) ((rdD [(S_side_n.mk p3.North p1), (S_side_n.mk p3.South p1), (S_side_n.mk p3.East p2), (S_side_n.mk p3.West p2)] x1164 z_S_side_n).side).length (((hlN [(hd1 A_p3_North c_p3_North), (hd1 A_p3_South c_p3_South), (hd1 A_p3_East c_p3_East), (hd1 A_p3_West c_p3_West)]) x1164.toNat 0).2))), (1, (iv ((rdD [(S_side_n.mk p3.North p1), (S_side_n.mk p3.South p1), (S_side_n.mk p3.East p2), (S_side_n.mk p3.West p2)] x1164 z_S_side_n).n)))] #[(.slice (((hlN [(hd1 A_p3_North c_p3_North), (hd1 A_p3_South c_p3_South), (hd1 A_p3_East c_p3_East), (hd1 A_p3_West c_p3_West)]) x1164.toNat 0).1) ((rdD [(S_side_n.mk p3.North p1), (S_side_n.mk p3.South p1), (S_side_n.mk p3.East p2), (S_side_n.mk p3.West p2)] x1164 z_S_side_n).side).length (((hlN [(hd1 A_p3_North c_p3_North), (hd1 A_p3_South c_p3_South), (hd1 A_p3_East c_p3_East), (hd1 A_p3_West c_p3_West)]) x1164.toNat 0).2)), (iv ((rdD [(S_side_n.mk p3.North p1), (S_side_n.mk p3.South p1), (S_side_n.mk p3.East p2), (S_side_n.mk p3.West p2)] x1164 z_S_side_n).n))] (fun fb => by kernel_rfl) (by kernel_rfl) rfl [1, 2] (by decide) (by decide) (fun w1177 hS1178 => ?_)
    refine ⟨trivial, ?_⟩
    refine WL.done rfl ?_
    refine WX.next ?_
    refine WC.seq ?_
    refine WC.region ?_
    refine seg 5 [.v (.slice (((hlN [(hd1 A_p3_North c_p3_North), (hd1 A_p3_South c_p3_South), (hd1 A_p3_East c_p3_East), (hd1 A_p3_West c_p3_West)]) x1164.toNat 0).1) ((rdD [(S_side_n.mk p3.North p1), (S_side_n.mk p3.South p1), (S_side_n.mk p3.East p2), (S_side_n.mk p3.West p2)] x1164 z_S_side_n).side).length (((hlN [(hd1 A_p3_North c_p3_North), (hd1 A_p3_South c_p3_South), (hd1 A_p3_East c_p3_East), (hd1 A_p3_West c_p3_West)]) x1164.toNat 0).2))] [0, 1, 2, 7, 11, 45, 46, 47, 55] [(0, (.slice A_p0 p0.length c_p0)), (1, (iv p1)), (2, (iv p2)), (7, (pt g1118)), (11, (pt g1173)), (45, (.slice (some ⟨g1135, 0, none⟩) [(S_side_n.mk p3.North p1), (S_side_n.mk p3.South p1), (S_side_n.mk p3.East p2), (S_side_n.mk p3.West p2)].length 4)), (46, (iv ([(S_side_n.mk p3.North p1), (S_side_n.mk p3.South p1), (S_side_n.mk p3.East p2), (S_side_n.mk p3.West p2)].length : Int))), (47, (iv x1164)), (55, (.bool ((((rdD [(S_side_n.mk p3.North p1), (S_side_n.mk p3.South p1), (S_side_n.mk p3.East p2), (S_side_n.mk p3.West p2)] x1164 z_S_side_n).side).length : Int) != 0)))] [.cell ⟨g1173, 0, none⟩ (.slice (((hlN [(hd1 A_p3_North c_p3_North), (hd1 A_p3_South c_p3_South), (hd1 A_p3_East c_p3_East), (hd1 A_p3_West c_p3_West)]) x1164.toNat 0).1) ((rdD [(S_side_n.mk p3.North p1), (S_side_n.mk p3.South p1), (S_side_n.mk p3.East p2), (S_side_n.mk p3.West p2)] x1164 z_S_side_n).side).length (((hlN [(hd1 A_p3_North c_p3_North), (hd1 A_p3_South c_p3_South), (hd1 A_p3_East c_p3_East), (hd1 A_p3_West c_p3_West)]) x1164.toNat 0).2))] (fun fb => by kernel_rfl) rfl ⟨hS1178.cell 0 rfl 0 rfl, trivial⟩ ?_
    refine WL.cutV (T := Bool) 12 (fun t => [(62, (.bool t)), (0, (.slice A_p0 p0.length c_p0)), (1, (iv p1)), (2, (iv p2)), (7, (pt g1118)), (45, (.slice (some ⟨g1135, 0, none⟩) [(S_side_n.mk p3.North p1), (S_side_n.mk p3.South p1), (S_side_n.mk p3.East p2), (S_side_n.mk p3.West p2)].length 4)), (46, (iv ([(S_side_n.mk p3.North p1), (S_side_n.mk p3.South p1), (S_side_n.mk p3.East p2), (S_side_n.mk p3.West p2)].length : Int))), (47, (iv x1164))]) (fun t => (((((rdD [(S_side_n.mk p3.North p1), (S_side_n.mk p3.South p1), (S_side_n.mk p3.East p2), (S_side_n.mk p3.West p2)] x1164 z_S_side_n).side).length : Int) != 0) && ((((rdD [(S_side_n.mk p3.North p1), (S_side_n.mk p3.South p1), (S_side_n.mk p3.East p2), (S_side_n.mk p3.West p2)] x1164 z_S_side_n).side).length : Int) != ((rdD [(S_side_n.mk p3.North p1), (S_side_n.mk p3.South p1), (S_side_n.mk p3.East p2), (S_side_n.mk p3.West p2)] x1164 z_S_side_n).n))) = t) (fun K => ?_) ?_
    ·
     rcases Bool.eq_false_or_eq_true ((((rdD [(S_side_n.mk p3.North p1), (S_side_n.mk p3.South p1), (S_side_n.mk p3.East p2), (S_side_n.mk p3.West p2)] x1164 z_S_side_n).side).length : Int) != 0) with h1179 | h1179
     ·
      refine WL.setB 55 h1179 rfl ?_
      refine seg 12 [.v (.slice (((hlN [(hd1 A_p3_North c_p3_North), (hd1 A_p3_South c_p3_South), (hd1 A_p3_East c_p3_East), (hd1 A_p3_West c_p3_West)]) x1164.toNat 0).1) ((rdD [(S_side_n.mk p3.North p1), (S_side_n.mk p3.South p1), (S_side_n.mk p3.East p2), (S_side_n.mk p3.West p2)] x1164 z_S_side_n).side).length (((hlN [(hd1 A_p3_North c_p3_North), (hd1 A_p3_South c_p3_South), (hd1 A_p3_East c_p3_East), (hd1 A_p3_West c_p3_West)]) x1164.toNat 0).2)), .v (iv ((rdD [(S_side_n.mk p3.North p1), (S_side_n.mk p3.South p1), (S_side_n.mk p3.East p2), (S_side_n.mk p3.West p2)] x1164 z_S_side_n).n))] [0, 1, 2, 7, 45, 46, 47, 62] [(0, (.slice A_p0 p0.length c_p0)), (1, (iv p1)), (2, (iv p2)), (7, (pt g1118)), (45, (.slice (some ⟨g1135, 0, none⟩) [(S_side_n.mk p3.North p1), (S_side_n.mk p3.South p1), (S_side_n.mk p3.East p2), (S_side_n.mk p3.West p2)].length 4)), (46, (iv ([(S_side_n.mk p3.North p1), (S_side_n.mk p3.South p1), (S_side_n.mk p3.East p2), (S_side_n.mk p3.West p2)].length : Int))), (47, (iv x1164)), (62, (.bool ((((rdD [(S_side_n.mk p3.North p1), (S_side_n.mk p3.South p1), (S_side_n.mk p3.East p2), (S_side_n.mk p3.West p2)] x1164 z_S_side_n).side).length : Int) != ((rdD [(S_side_n.mk p3.North p1), (S_side_n.mk p3.South p1), (S_side_n.mk p3.East p2), (S_side_n.mk p3.West p2)] x1164 z_S_side_n).n))))] [.cell ⟨g1173, 0, none⟩ (.slice (((hlN [(hd1 A_p3_North c_p3_North), (hd1 A_p3_South c_p3_South), (hd1 A_p3_East c_p3_East), (hd1 A_p3_West c_p3_West)]) x1164.toNat 0).1) ((rdD [(S_side_n.mk p3.North p1), (S_side_n.mk p3.South p1), (S_side_n.mk p3.East p2), (S_side_n.mk p3.West p2)] x1164 z_S_side_n).side).length (((hlN [(hd1 A_p3_North c_p3_North), (hd1 A_p3_South c_p3_South), (hd1 A_p3_East c_p3_East), (hd1 A_p3_West c_p3_West)]) x1164.toNat 0).2)), .cell ⟨g1173, 1, none⟩ (iv ((rdD [(S_side_n.mk p3.North p1), (S_side_n.mk p3.South p1), (S_side_n.mk p3.East p2), (S_side_n.mk p3.West p2)] x1164 z_S_side_n).n))] (fun fb => by kernel_rfl) rfl ⟨hS1178.cell 0 rfl 0 rfl, hS1178.cell 0 rfl 1 rfl, trivial⟩ ?_
      exact WL.toV K ((((rdD [(S_side_n.mk p3.North p1), (S_side_n.mk p3.South p1), (S_side_n.mk p3.East p2), (S_side_n.mk p3.West p2)] x1164 z_S_side_n).side).length : Int) != ((rdD [(S_side_n.mk p3.North p1), (S_side_n.mk p3.South p1), (S_side_n.mk p3.East p2), (S_side_n.mk p3.West p2)] x1164 z_S_side_n).n)) [62, 0, 1, 2, 7, 45, 46, 47] rfl (by first | (rw [h1179]; done) | (rw [h1179]; rfl))
     refine WL.setB 55 h1179 rfl ?_
     refine seg 12 [] [0, 1, 2, 7, 45, 46, 47, 62] [(0, (.slice A_p0 p0.length c_p0)), (1, (iv p1)), (2, (iv p2)), (7, (pt g1118)), (45, (.slice (some ⟨g1135, 0, none⟩) [(S_side_n.mk p3.North p1), (S_side_n.mk p3.South p1), (S_side_n.mk p3.East p2), (S_side_n.mk p3.West p2)].length 4)), (46, (iv ([(S_side_n.mk p3.North p1), (S_side_n.mk p3.South p1), (S_side_n.mk p3.East p2), (S_side_n.mk p3.West p2)].length : Int))), (47, (iv x1164)), (62, (.bool false))] [] (fun fb => by kernel_rfl) rfl trivial ?_
     exact WL.toV K false [62, 0, 1, 2, 7, 45, 46, 47] rfl (by first | (rw [h1179]; done) | (rw [h1179]; rfl))
    rintro b1180 rfl
    refine WL.done rfl ?_
    refine WX.next ?_
    rcases br_some hl1170 with ⟨h1181, hl1170⟩ | ⟨h1181, hl1170⟩
    ·refine WC.condT2 (fun fb => by kernel_rfl) h1181 ?_
     refine WC.seq ?_
     refine WC.region ?_
     refine seg 2 [] [8, 9] [(8, (.pointer none)), (9, (iv 2))] [] (fun fb => by kernel_rfl) rfl trivial ?_
     refine WL.done rfl ?_
     refine WX.next ?_
     refine WC.ret ?_
     injection hl1170 with hl1170
     subst hl1170
     injection hf with hf
     subst hf
     exact WX.blockR (WX.thenR (WX.thenR (WX.blockR (WX.thenR (WX.ret_ [] (.tuple #[(.pointer none), (iv 2)]) [] (fun fb => by kernel_rfl) trivial ⟨_, rfl, 0, none, 0, h0, rfl, hS1178.keep⟩)))))
    refine WC.condF2 (fun fb => by kernel_rfl) h1181 ?_
    refine WC.skip ?_
    refine WX.blockN (WX.next ?_)
    refine WC.region ?_
    refine seg 2 [] [0, 1, 2, 7, 45, 46, 47] [(0, (.slice A_p0 p0.length c_p0)), (1, (iv p1)), (2, (iv p2)), (7, (pt g1118)), (45, (.slice (some ⟨g1135, 0, none⟩) [(S_side_n.mk p3.North p1), (S_side_n.mk p3.South p1), (S_side_n.mk p3.East p2), (S_side_n.mk p3.West p2)].length 4)), (46, (iv ([(S_side_n.mk p3.North p1), (S_side_n.mk p3.South p1), (S_side_n.mk p3.East p2), (S_side_n.mk p3.West p2)].length : Int))), (47, (iv (w64 (x1164 + 1))))] [] (fun fb => by kernel_rfl) rfl trivial ?_
    refine WL.done rfl ?_
    exact WX.again k1167 (Nat.lt_succ_self _) (w64 (x1164 + 1)) [0, 1, 2, 7, 45, 46, 47] rfl ⟨(hS1178.subR [0, 1, 2, 3, 4, 5]).sub [1, 2] (by decide), hl1170⟩
   refine WC.condF2 (fun fb => by kernel_rfl) h1171 ?_
   refine WC.exit ?_
   injection hl1170 with hl1170
   exact WX.thenX (WX.thenX (WX.blockHere (WX.to Kx1165 () [0, 1, 2, 7] rfl ⟨(hS1169.subR [0, 1, 2, 3, 4, 5]).sub [0] (by decide), hl1170.symm⟩)))
 rintro y1185 w1182 ⟨hS1183, hq1184⟩
 subst hq1184
 have hf := sum_inr hf
 refine WX.next ?_
 refine WC.seq ?_
 refine WC.seq ?_
 refine WC.region ?_
 refine seg 2 [] [0, 1, 2, 7, 64, 65] [(0, (.slice A_p0 p0.length c_p0)), (1, (iv p1)), (2, (iv p2)), (7, (pt g1118)), (64, (.slice A_p0 p0.length c_p0)), (65, (iv p1))] [] (fun fb => by kernel_rfl) rfl trivial ?_
 obtain ⟨t1187, ht1188, hf⟩ := bind_some hf
 refine WL.call (some 66) 45 #[(.slice A_p0 p0.length c_p0), (iv p1)] (fun fb => by kernel_rfl) (rows_Few_calls _ p0 p1 A_p0 c_p0 t1187 _ (hS1183.rd 1) ht1188) (fun v w1189 hR1190 => ?_)
 obtain ⟨rfl, hk_⟩ := hR1190
 have hS1191 := hS1183.keepN hk_
 refine ⟨trivial, ?_⟩
 refine seg 4 [] [0, 1, 2, 7, 67] [(0, (.slice A_p0 p0.length c_p0)), (1, (iv p1)), (2, (iv p2)), (7, (pt g1118)), (67, (.bool (!t1187)))] [] (fun fb => by kernel_rfl) rfl trivial ?_
 refine WL.done rfl ?_
 refine WX.next ?_
 rcases br_some hf with ⟨h1192, hf⟩ | ⟨h1192, hf⟩
 ·refine WC.condT2 (fun fb => by kernel_rfl) h1192 ?_
  refine WC.seq ?_
  refine WC.region ?_
  refine seg 2 [] [8, 9] [(8, (.pointer none)), (9, (iv 4))] [] (fun fb => by kernel_rfl) rfl trivial ?_
  refine WL.done rfl ?_
  refine WX.next ?_
  refine WC.ret ?_
  injection hf with hf
  subst hf
  exact WX.thenR (WX.ret_ [] (.tuple #[(.pointer none), (iv 4)]) [] (fun fb => by kernel_rfl) trivial ⟨_, rfl, 0, none, 0, h0, rfl, hS1191.keep⟩)
 refine WC.condF2 (fun fb => by kernel_rfl) h1192 ?_
 refine WC.skip ?_
 refine WX.next ?_
 refine WC.seq ?_
 refine WC.regionD ([(5, ⟨g1118, 0, none⟩, (.slice A_p3_North p3.North.length c_p3_North)), (5, ⟨g1118, 1, none⟩, (.slice A_p3_East p3.East.length c_p3_East)), (5, ⟨g1118, 2, none⟩, (.slice A_p3_South p3.South.length c_p3_South)), (5, ⟨g1118, 3, none⟩, (.slice A_p3_West p3.West.length c_p3_West))], [0, 1, 3, 4, 5, 6, 8, 9], [[], [], [0, 1], [], [], [], [0, 1, 2, 3, 4, 5], [0, 1, 2, 3, 4, 5, 6], [0, 1, 2, 3, 4, 5, 6, 7], [0, 1, 2, 3, 4, 5, 6, 7, 8]]) [[0, 1, 3, 4, 5, 2, 6, 7, 8, 9]] (by kernel_rfl) (by kernel_rfl) (NoPanic.seq (NoPanic.body)) ?_
 have hS1206 := hS1191.drew
 revert hS1206
 generalize World.drew w1189 = w1205
 intro hS1206
 refine ⟨⟨hS1206.cell 0 rfl 0 rfl, hS1206.cell 0 rfl 1 rfl, hS1206.cell 0 rfl 2 rfl, hS1206.cell 0 rfl 3 rfl, trivial⟩, forallC ?_ (forallN)⟩
 refine segF 5 [.v (.slice A_p3_North p3.North.length c_p3_North), .v (.slice A_p3_East p3.East.length c_p3_East), .v (.slice A_p3_South p3.South.length c_p3_South), .v (.slice A_p3_West p3.West.length c_p3_West)] [68, 69, 71, 72, 73] [(68, (.slice A_p0 p0.length c_p0)), (69, (iv p1)), (71, (iv p1)), (72, (iv p2)), (73, (.agg #[(.slice A_p3_North p3.North.length c_p3_North), (.slice A_p3_East p3.East.length c_p3_East), (.slice A_p3_South p3.South.length c_p3_South), (.slice A_p3_West p3.West.length c_p3_West)]))] [] [0, 1, 2, 3] [(5, ⟨g1118, 0, none⟩, (.slice A_p3_North p3.North.length c_p3_North)), (5, ⟨g1118, 1, none⟩, (.slice A_p3_East p3.East.length c_p3_East)), (5, ⟨g1118, 2, none⟩, (.slice A_p3_South p3.South.length c_p3_South)), (5, ⟨g1118, 3, none⟩, (.slice A_p3_West p3.West.length c_p3_West))] (fun fb => by kernel_rfl) rfl trivial rfl ?_
 obtain ⟨t1207, ht1208, hf⟩ := bind_some hf
 refine WL.call (some 70) 67 #[(.slice A_p0 p0.length c_p0), (iv p1)] (fun fb => by kernel_rfl) (rows_All_calls _ p0 p1 A_p0 c_p0 t1207 _ (hS1206.rd 1) ht1208) (fun v w1209 hR1210 => ?_)
 obtain ⟨A1212, c1213, H1214, rfl, hk_⟩ := hR1210
 have hS1211 : St NoS w w1209 [nestO subN_S_side_n (hlN [(hd1 A_p3_North c_p3_North), (hd1 A_p3_South c_p3_South), (hd1 A_p3_East c_p3_East), (hd1 A_p3_West c_p3_West)]) [(S_side_n.mk p3.North p1), (S_side_n.mk p3.South p1), (S_side_n.mk p3.East p2), (S_side_n.mk p3.West p2)], rowR enc_Tile A_p0 c_p0 p0, rowR encInt A_p3_North c_p3_North p3.North, rowR encInt A_p3_East c_p3_East p3.East, rowR encInt A_p3_South c_p3_South p3.South, rowR encInt A_p3_West c_p3_West p3.West] [rowO 88 encN_Row A1212 c1213 (tag H1214 t1207), poolO [nestO subN_Row H1214 t1207], blk g1118 (.cells #[(.slice A_p3_North p3.North.length c_p3_North), (.slice A_p3_East p3.East.length c_p3_East), (.slice A_p3_South p3.South.length c_p3_South), (.slice A_p3_West p3.West.length c_p3_West)] 57 (0, 0))] := hS1206.call hk_ [] [0] (fun g hg => hg.elim) (by simp) (by decide)
 refine ⟨⟨hS1211.cell 2 rfl 0 rfl, hS1211.cell 2 rfl 1 rfl, hS1211.cell 2 rfl 2 rfl, hS1211.cell 2 rfl 3 rfl, trivial⟩, ?_⟩
 refine seg 7 [] [74] [(74, (.agg #[(.slice A1212 t1207.length c1213), (iv p1), (iv p2), (.slice A_p3_North p3.North.length c_p3_North), (.slice A_p3_East p3.East.length c_p3_East), (.slice A_p3_South p3.South.length c_p3_South), (.slice A_p3_West p3.West.length c_p3_West)]))] [] (fun fb => by kernel_rfl) rfl trivial ?_
 refine WL.new hS1211 75 [] (fun g => (.pointer (some ⟨g, 0, none⟩))) (.cells #[(.slice A1212 t1207.length c1213), (iv p1), (iv p2), (.slice A_p3_North p3.North.length c_p3_North), (.slice A_p3_East p3.East.length c_p3_East), (.slice A_p3_South p3.South.length c_p3_South), (.slice A_p3_West p3.West.length c_p3_West)] 84 (0, 0)) [] (fun fb g => by kernel_rfl) trivial (fun g1215 w1216 hS1217 => ?_)
 refine ⟨trivial, ?_⟩
 refine seg 10 [] [8, 9] [(8, (pt g1215)), (9, (iv 0))] [] (fun fb => by kernel_rfl) rfl trivial ?_
 refine WL.done rfl ?_
 refine WX.next ?_
 refine WC.ret ?_
 injection hf with hf
 subst hf
 exact WX.ret_ [] (.tuple #[(pt g1215), (iv 0)]) [] (fun fb => by kernel_rfl) trivial ⟨_, rfl, g1215, A1212, c1213, H1214, rfl, (hS1217.sub [0, 1, 2] (by decide)).noR⟩
theorem fill_at_calls (p0 : List Int) (p1 : Int) (p2 : Int) (A_p0 : Option Addr) (c_p0 : Nat) (r : Bool) (w : World) (hR0 : RO NoS w (rowR encInt A_p0 c_p0 p0)) (hf : fill_at p0 p1 p2 = some r) :
  CallsR Try.prog 68 #[(.slice A_p0 p0.length c_p0), (iv p1), (iv p2)] w (fun v w' => v = (.bool r) ∧ Keeps NoS w w') := by
 have hS : St NoS w w [rowR encInt A_p0 c_p0 p0] [] := St.init (ro_cons hR0 (ro_nil _ _))
 refine enter 18 Try.func68 rfl Try.ntmps68 rfl ?_
 unfold fill_at at hf
 refine WC.seq ?_
 refine WC.region ?_
 refine seg 1 [] [0, 1, 2] [(0, (.slice A_p0 p0.length c_p0)), (1, (iv p1)), (2, (iv p2))] [] (fun fb => by kernel_rfl) rfl trivial ?_
 refine WL.done rfl ?_
 refine WX.next ?_
 refine WC.seq ?_
 refine WC.region ?_
 refine seg 4 [] [0, 1, 2, 10] [(0, (.slice A_p0 p0.length c_p0)), (1, (iv p1)), (2, (iv p2)), (10, (.bool ((p0.length : Int) == 0)))] [] (fun fb => by kernel_rfl) rfl trivial ?_
 obtain ⟨b1321, hv1322, hf⟩ := bind_some hf
 refine WL.cutV (T := Unit) 11 (fun t => [(17, (.bool b1321))]) (fun t => True) (fun K => ?_) ?_
 ·
  rcases br_some hv1322 with ⟨h1323, hv1322⟩ | ⟨h1323, hv1322⟩
  ·
   refine WL.setB 10 h1323 rfl ?_
   refine seg 11 [] [17] [(17, (.bool true))] [] (fun fb => by kernel_rfl) rfl trivial ?_
   injection hv1322 with hv1322
   subst hv1322
   exact WL.toV K () [17] rfl trivial
  refine WL.setB 10 h1323 rfl ?_
  refine seg 6 [] [2, 10, 11, 12] [(2, (iv p2)), (10, (.bool false)), (11, (.slice A_p0 p0.length c_p0)), (12, (iv p1))] [] (fun fb => by kernel_rfl) rfl trivial ?_
  obtain ⟨h1324, hv1322⟩ := as_some hv1322
  refine seg 11 [.v (iv (rdD p0 p1 0))] [17] [(17, (.bool ((rdD p0 p1 0) == p2)))] [.idx A_p0 p1 p0.length, .cell ((adr A_p0).add ((p1).toNat * 1)) (iv (rdD p0 p1 0))] (fun fb => by kernel_rfl) rfl ⟨rowR.adr (hS.rd 0).1 h1324.1 h1324.2, rowR.cell (hS.rd 0).1 0 h1324.1 h1324.2 0 rfl, trivial⟩ ?_
  injection hv1322 with hv1322
  subst hv1322
  exact WL.toV K () [17] rfl trivial
 rintro _ _
 refine seg 12 [] [6] [(6, (.bool b1321))] [] (fun fb => by kernel_rfl) rfl trivial ?_
 refine WL.done rfl ?_
 refine WX.next ?_
 refine WC.ret ?_
 injection hf with hf
 subst hf
 exact WX.ret_ [] (.bool b1321) [] (fun fb => by kernel_rfl) trivial ⟨_, rfl, rfl, hS.keep⟩
theorem fill_job_allows_calls (k : Nat) (p0 : Job) (p1 : Row) (p2 : Int) (g_p0 : Nat) (A_p0_rows : Option Addr) (c_p0_rows : Nat) (H_p0_rows : Nat → HF) (A_p0_edges_North : Option Addr) (c_p0_edges_North : Nat) (A_p0_edges_East : Option Addr) (c_p0_edges_East : Nat) (A_p0_edges_South : Option Addr) (c_p0_edges_South : Nat) (A_p0_edges_West : Option Addr) (c_p0_edges_West : Nat) (A_p1_Cells : Option Addr) (c_p1_Cells : Nat) (r : Bool) (w : World) (hR0 : RO NoS w (blk g_p0 (.cells #[(.slice A_p0_rows p0.rows.length c_p0_rows), (iv p0.width), (iv p0.height), (.slice A_p0_edges_North p0.edges.North.length c_p0_edges_North), (.slice A_p0_edges_East p0.edges.East.length c_p0_edges_East), (.slice A_p0_edges_South p0.edges.South.length c_p0_edges_South), (.slice A_p0_edges_West p0.edges.West.length c_p0_edges_West)] 84 (0, 0)))) (hR1 : RO NoS w (rowR encN_Row A_p0_rows c_p0_rows (tag H_p0_rows p0.rows))) (hR2 : RO NoS w (nestO subN_Row H_p0_rows p0.rows)) (hR3 : RO NoS w (rowR encInt A_p0_edges_North c_p0_edges_North p0.edges.North)) (hR4 : RO NoS w (rowR encInt A_p0_edges_East c_p0_edges_East p0.edges.East)) (hR5 : RO NoS w (rowR encInt A_p0_edges_South c_p0_edges_South p0.edges.South)) (hR6 : RO NoS w (rowR encInt A_p0_edges_West c_p0_edges_West p0.edges.West)) (hR7 : RO NoS w (rowR encInt A_p1_Cells c_p1_Cells p1.Cells)) (hf : fill_job_allows k p0 p1 p2 = some r) :
  CallsR Try.prog 55 #[(.pointer (some ⟨g_p0, 0, none⟩)), (.agg #[(.slice A_p1_Cells p1.Cells.length c_p1_Cells), (iv p1.South.e0), (iv p1.South.e1), (iv p1.South.e2), (iv p1.South.e3), (iv p1.South.e4), (iv p1.South.e5), (iv p1.South.e6), (iv p1.South.e7), (iv p1.North.e0), (iv p1.North.e1), (iv p1.North.e2), (iv p1.North.e3), (iv p1.North.e4), (iv p1.North.e5), (iv p1.North.e6), (iv p1.North.e7), (iv p1.West), (iv p1.East)]), (iv p2)] w (fun v w' => v = (.bool r) ∧ Keeps NoS w w') := by
 have hS : St NoS w w [blk g_p0 (.cells #[(.slice A_p0_rows p0.rows.length c_p0_rows), (iv p0.width), (iv p0.height), (.slice A_p0_edges_North p0.edges.North.length c_p0_edges_North), (.slice A_p0_edges_East p0.edges.East.length c_p0_edges_East), (.slice A_p0_edges_South p0.edges.South.length c_p0_edges_South), (.slice A_p0_edges_West p0.edges.West.length c_p0_edges_West)] 84 (0, 0)), rowR encN_Row A_p0_rows c_p0_rows (tag H_p0_rows p0.rows), nestO subN_Row H_p0_rows p0.rows, rowR encInt A_p0_edges_North c_p0_edges_North p0.edges.North, rowR encInt A_p0_edges_East c_p0_edges_East p0.edges.East, rowR encInt A_p0_edges_South c_p0_edges_South p0.edges.South, rowR encInt A_p0_edges_West c_p0_edges_West p0.edges.West, rowR encInt A_p1_Cells c_p1_Cells p1.Cells] [] := St.init (ro_cons hR0 (ro_cons hR1 (ro_cons hR2 (ro_cons hR3 (ro_cons hR4 (ro_cons hR5 (ro_cons hR6 (ro_cons hR7 (ro_nil _ _)))))))))
 refine enter 77 Try.func55 rfl Try.ntmps55 rfl ?_
 unfold fill_job_allows at hf
 refine WC.seq ?_
 refine WC.region ?_
 refine WL.new hS 4 [] (fun g => (.pointer (some ⟨g, 0, none⟩))) (.cells #[(.slice A_p1_Cells p1.Cells.length c_p1_Cells), (iv p1.South.e0), (iv p1.South.e1), (iv p1.South.e2), (iv p1.South.e3), (iv p1.South.e4), (iv p1.South.e5), (iv p1.South.e6), (iv p1.South.e7), (iv p1.North.e0), (iv p1.North.e1), (iv p1.North.e2), (iv p1.North.e3), (iv p1.North.e4), (iv p1.North.e5), (iv p1.North.e6), (iv p1.North.e7), (iv p1.West), (iv p1.East)] 88 (0, 0)) [] (fun fb g => by kernel_rfl) trivial (fun g1316 w1317 hS1318 => ?_)
 refine ⟨trivial, ?_⟩
 refine seg 2 [] [0, 2, 4] [(0, (.pointer (some ⟨g_p0, 0, none⟩))), (2, (iv p2)), (4, (pt g1316))] [] (fun fb => by kernel_rfl) rfl trivial ?_
 refine WL.done rfl ?_
 refine WX.next ?_
 refine WC.seq ?_
 refine WC.seq ?_
 refine WC.regionD ([(4, ⟨g_p0, 6, none⟩, (.slice A_p0_edges_West p0.edges.West.length c_p0_edges_West)), (7, ⟨g1316, 17, none⟩, (iv p1.West)), (18, ⟨g1316, 18, none⟩, (iv p1.East))], [0, 1, 2, 3, 4, 5, 6, 7, 9, 10, 11, 12, 13, 14, 16, 17, 18, 20, 21], [[], [0], [0, 1], [0, 1, 2], [0, 1, 2, 3], [], [], [6], [0, 1, 2, 3, 4, 5, 6, 7], [0, 1, 2, 3, 4, 5, 6, 7, 8], [0, 1, 2, 3, 4, 5, 6, 7, 8, 9], [0, 1, 2, 3, 4, 5, 6, 7, 8, 9, 10], [0, 1, 2, 3, 4, 5, 6, 7, 8, 9, 10, 11], [0, 1, 2, 3, 4, 5, 6, 7, 8, 9, 10, 11, 12], [0, 1, 2, 3, 4, 5, 6, 7, 8, 9, 10, 11, 12, 13], [0, 1, 2, 3, 4, 5, 6, 7, 8, 9, 10, 11, 12, 13, 14], [0, 1, 2, 3, 4, 5, 6, 7, 8, 9, 10], [0, 1, 2, 3, 4, 5, 6, 7, 8, 9, 10], [0, 1, 2, 3, 4, 5, 6, 7, 8, 9, 10, 17], [0, 1, 2, 3, 4, 5, 6, 7, 8, 9, 10, 11, 12, 13, 14, 15, 16, 17, 18], [0, 1, 2, 3, 4, 5, 6, 7, 8, 9, 10, 11, 12, 13, 14, 15, 16, 17, 18, 19], [0, 1, 2, 3, 4, 5, 6, 7, 8, 9, 10, 11, 12, 13, 14, 15, 16, 17, 18, 19, 20]]) [[0, 1, 2, 3, 4, 5, 6, 7, 8, 9, 10, 11, 12, 13, 14, 16, 17, 18, 15, 19, 20, 21]] (by kernel_rfl) (by kernel_rfl) (NoPanic.seq (NoPanic.seq (NoPanic.body))) ?_
 have hS1350 := hS1318.drew
 revert hS1350
 generalize World.drew w1317 = w1349
 intro hS1350
 refine ⟨⟨blk_cell (hS1350.rd 0).1 6 rfl, hS1350.cell 0 rfl 17 rfl, hS1350.cell 0 rfl 18 rfl, trivial⟩, forallC ?_ (forallN)⟩
 refine segF 8 [.v (.slice A_p0_edges_West p0.edges.West.length c_p0_edges_West), .v (iv p1.West)] [0, 2, 4, 12, 13, 15] [(0, (.pointer (some ⟨g_p0, 0, none⟩))), (2, (iv p2)), (4, (pt g1316)), (12, (.slice A_p0_edges_West p0.edges.West.length c_p0_edges_West)), (13, (iv p2)), (15, (iv p1.West))] [] [0, 1] [(4, ⟨g_p0, 6, none⟩, (.slice A_p0_edges_West p0.edges.West.length c_p0_edges_West)), (7, ⟨g1316, 17, none⟩, (iv p1.West))] (fun fb => by kernel_rfl) rfl trivial rfl ?_
 obtain ⟨t1351, ht1352, hf⟩ := bind_some hf
 refine WL.call (some 16) 68 #[(.slice A_p0_edges_West p0.edges.West.length c_p0_edges_West), (iv p2), (iv p1.West)] (fun fb => by kernel_rfl) (fill_at_calls p0.edges.West p2 p1.West A_p0_edges_West c_p0_edges_West t1351 _ (hS1350.rd 6) ht1352) (fun v w1353 hR1354 => ?_)
 obtain ⟨rfl, hk_⟩ := hR1354
 have hS1355 := hS1350.keepN hk_
 refine ⟨⟨hS1355.cell 0 rfl 18 rfl, trivial⟩, ?_⟩
 refine seg 11 [] [0, 2, 4, 18] [(0, (.pointer (some ⟨g_p0, 0, none⟩))), (2, (iv p2)), (4, (pt g1316)), (18, (.bool (!t1351)))] [] (fun fb => by kernel_rfl) rfl trivial ?_
 obtain ⟨x1362, hx1363, hf⟩ := bind_some hf
 refine WL.cutW (T := Bool) 22 (fun t => [(0, (.pointer (some ⟨g_p0, 0, none⟩))), (2, (iv p2)), (4, (pt g1316)), (29, (.bool t))]) (fun t w1 => (St NoS w w1 [blk g_p0 (.cells #[(.slice A_p0_rows p0.rows.length c_p0_rows), (iv p0.width), (iv p0.height), (.slice A_p0_edges_North p0.edges.North.length c_p0_edges_North), (.slice A_p0_edges_East p0.edges.East.length c_p0_edges_East), (.slice A_p0_edges_South p0.edges.South.length c_p0_edges_South), (.slice A_p0_edges_West p0.edges.West.length c_p0_edges_West)] 84 (0, 0)), rowR encN_Row A_p0_rows c_p0_rows (tag H_p0_rows p0.rows), nestO subN_Row H_p0_rows p0.rows, rowR encInt A_p0_edges_North c_p0_edges_North p0.edges.North, rowR encInt A_p0_edges_East c_p0_edges_East p0.edges.East, rowR encInt A_p0_edges_South c_p0_edges_South p0.edges.South, rowR encInt A_p0_edges_West c_p0_edges_West p0.edges.West, rowR encInt A_p1_Cells c_p1_Cells p1.Cells] [blk g1316 (.cells #[(.slice A_p1_Cells p1.Cells.length c_p1_Cells), (iv p1.South.e0), (iv p1.South.e1), (iv p1.South.e2), (iv p1.South.e3), (iv p1.South.e4), (iv p1.South.e5), (iv p1.South.e6), (iv p1.South.e7), (iv p1.North.e0), (iv p1.North.e1), (iv p1.North.e2), (iv p1.North.e3), (iv p1.North.e4), (iv p1.North.e5), (iv p1.North.e6), (iv p1.North.e7), (iv p1.West), (iv p1.East)] 88 (0, 0))] ∧ x1362 = t) ∧ CellsOK [] w1) (fun K => ?_) ?_
 ·
  rcases br_some hx1363 with ⟨h1364, hx1363⟩ | ⟨h1364, hx1363⟩
  ·
   refine WL.setB 18 h1364 rfl ?_
   refine seg 22 [] [0, 2, 4, 29] [(0, (.pointer (some ⟨g_p0, 0, none⟩))), (2, (iv p2)), (4, (pt g1316)), (29, (.bool true))] [] (fun fb => by kernel_rfl) rfl trivial ?_
   injection hx1363 with hx1363
   exact WL.to K true [0, 2, 4, 29] rfl ⟨⟨(hS1355.subR [0, 1, 2, 3, 4, 5, 6, 7]).sub [0] (by decide), hx1363.symm⟩, trivial⟩
  refine WL.setB 18 h1364 rfl ?_
  refine segF 19 [.v (iv p1.East), .v (.slice A_p0_edges_East p0.edges.East.length c_p0_edges_East)] [0, 2, 4, 18, 23, 24, 26] [(0, (.pointer (some ⟨g_p0, 0, none⟩))), (2, (iv p2)), (4, (pt g1316)), (18, (.bool false)), (23, (.slice A_p0_edges_East p0.edges.East.length c_p0_edges_East)), (24, (iv p2)), (26, (iv p1.East))] [.cell ⟨g_p0, 4, none⟩ (.slice A_p0_edges_East p0.edges.East.length c_p0_edges_East)] [2] [(18, ⟨g1316, 18, none⟩, (iv p1.East))] (fun fb => by kernel_rfl) rfl ⟨blk_cell (hS1355.rd 0).1 4 rfl, trivial⟩ rfl ?_
  obtain ⟨t1365, ht1366, hx1363⟩ := bind_some hx1363
  refine WL.call (some 27) 68 #[(.slice A_p0_edges_East p0.edges.East.length c_p0_edges_East), (iv p2), (iv p1.East)] (fun fb => by kernel_rfl) (fill_at_calls p0.edges.East p2 p1.East A_p0_edges_East c_p0_edges_East t1365 _ (hS1355.rd 4) ht1366) (fun v w1367 hR1368 => ?_)
  obtain ⟨rfl, hk_⟩ := hR1368
  have hS1369 := hS1355.keepN hk_
  refine ⟨trivial, ?_⟩
  refine seg 22 [] [0, 2, 4, 29] [(0, (.pointer (some ⟨g_p0, 0, none⟩))), (2, (iv p2)), (4, (pt g1316)), (29, (.bool (!t1365)))] [] (fun fb => by kernel_rfl) rfl trivial ?_
  injection hx1363 with hx1363
  exact WL.to K (!t1365) [0, 2, 4, 29] rfl ⟨⟨(hS1369.subR [0, 1, 2, 3, 4, 5, 6, 7]).sub [0] (by decide), hx1363.symm⟩, trivial⟩
 rintro y1370 w1372 ⟨⟨hS1373, hq1371⟩, hF1374⟩
 subst hq1371
 refine WL.done rfl ?_
 refine WX.next ?_
 rcases br_some hf with ⟨h1375, hf⟩ | ⟨h1375, hf⟩
 ·refine WC.condT2 (fun fb => by kernel_rfl) h1375 ?_
  refine WC.seq ?_
  refine WC.region ?_
  refine seg 1 [] [6] [(6, (.bool false))] [] (fun fb => by kernel_rfl) rfl trivial ?_
  refine WL.done rfl ?_
  refine WX.next ?_
  refine WC.ret ?_
  injection hf with hf
  subst hf
  exact WX.thenR (WX.ret_ [] (.bool false) [] (fun fb => by kernel_rfl) trivial ⟨_, rfl, rfl, hS1373.keep⟩)
 refine WC.condF2 (fun fb => by kernel_rfl) h1375 ?_
 refine WC.skip ?_
 refine WX.next ?_
 refine WC.seq ?_
 refine WC.seq ?_
 refine WC.region ?_
 refine seg 5 [.v (iv p0.width)] [0, 2, 4, 33, 34] [(0, (.pointer (some ⟨g_p0, 0, none⟩))), (2, (iv p2)), (4, (pt g1316)), (33, (iv p0.width)), (34, (iv 0))] [.cell ⟨g_p0, 1, none⟩ (iv p0.width)] (fun fb => by kernel_rfl) rfl ⟨blk_cell (hS1373.rd 0).1 1 rfl, trivial⟩ ?_
 refine WL.done rfl ?_
 refine WX.next ?_
 obtain ⟨x1912, hx1913, hf⟩ := bind_some hf
 refine WC.cutN (T := Unit) (fun t => []) (fun t w1 => St NoS w w1 [blk g_p0 (.cells #[(.slice A_p0_rows p0.rows.length c_p0_rows), (iv p0.width), (iv p0.height), (.slice A_p0_edges_North p0.edges.North.length c_p0_edges_North), (.slice A_p0_edges_East p0.edges.East.length c_p0_edges_East), (.slice A_p0_edges_South p0.edges.South.length c_p0_edges_South), (.slice A_p0_edges_West p0.edges.West.length c_p0_edges_West)] 84 (0, 0)), rowR encN_Row A_p0_rows c_p0_rows (tag H_p0_rows p0.rows), nestO subN_Row H_p0_rows p0.rows, rowR encInt A_p0_edges_North c_p0_edges_North p0.edges.North, rowR encInt A_p0_edges_East c_p0_edges_East p0.edges.East, rowR encInt A_p0_edges_South c_p0_edges_South p0.edges.South, rowR encInt A_p0_edges_West c_p0_edges_West p0.edges.West, rowR encInt A_p1_Cells c_p1_Cells p1.Cells] [] ∧ x1912 = .inr t) (fun Kx1912 => ?_) ?_
 ·
  refine WC.block ?_
  refine WC.loop (T := Int) (fun t => [(0, (.pointer (some ⟨g_p0, 0, none⟩))), (2, (iv p2)), (4, (pt g1316)), (33, (iv p0.width)), (34, (iv t))]) (fun n t w1 => St NoS w w1 [blk g_p0 (.cells #[(.slice A_p0_rows p0.rows.length c_p0_rows), (iv p0.width), (iv p0.height), (.slice A_p0_edges_North p0.edges.North.length c_p0_edges_North), (.slice A_p0_edges_East p0.edges.East.length c_p0_edges_East), (.slice A_p0_edges_South p0.edges.South.length c_p0_edges_South), (.slice A_p0_edges_West p0.edges.West.length c_p0_edges_West)] 84 (0, 0)), rowR encN_Row A_p0_rows c_p0_rows (tag H_p0_rows p0.rows), nestO subN_Row H_p0_rows p0.rows, rowR encInt A_p0_edges_North c_p0_edges_North p0.edges.North, rowR encInt A_p0_edges_East c_p0_edges_East p0.edges.East, rowR encInt A_p0_edges_South c_p0_edges_South p0.edges.South, rowR encInt A_p0_edges_West c_p0_edges_West p0.edges.West, rowR encInt A_p1_Cells c_p1_Cells p1.Cells] [blk g1316 (.cells #[(.slice A_p1_Cells p1.Cells.length c_p1_Cells), (iv p1.South.e0), (iv p1.South.e1), (iv p1.South.e2), (iv p1.South.e3), (iv p1.South.e4), (iv p1.South.e5), (iv p1.South.e6), (iv p1.South.e7), (iv p1.North.e0), (iv p1.North.e1), (iv p1.North.e2), (iv p1.North.e3), (iv p1.North.e4), (iv p1.North.e5), (iv p1.North.e6), (iv p1.North.e7), (iv p1.West), (iv p1.East)] 88 (0, 0))] ∧ fill_job_allows.l0 n t p0 p1 p2 = some x1912) k 0 [0, 2, 4, 33, 34] rfl ⟨(hS1373.subR [0, 1, 2, 3, 4, 5, 6, 7]).sub [0] (by decide), hx1913⟩ ?_
  rintro k1914 x1911 w1915 ⟨hS1916, hl1917⟩
  cases k1914 with
  | zero => rw [fill_job_allows.l0] at hl1917; cases hl1917
  | succ k1914 =>
   rw [fill_job_allows.l0] at hl1917
   refine WC.seq ?_
   refine WC.region ?_
   refine seg 1 [] [0, 2, 4, 33, 34, 35] [(0, (.pointer (some ⟨g_p0, 0, none⟩))), (2, (iv p2)), (4, (pt g1316)), (33, (iv p0.width)), (34, (iv x1911)), (35, (.bool (decide (x1911 < p0.width))))] [] (fun fb => by kernel_rfl) rfl trivial ?_
   refine WL.done rfl ?_
   refine WX.next ?_
   refine WC.seq ?_
   rcases br_some hl1917 with ⟨h1918, hl1917⟩ | ⟨h1918, hl1917⟩
   ·refine WC.condT2 (fun fb => by kernel_rfl) h1918 ?_
    refine WC.skip ?_
    refine WX.next ?_
    refine WC.seq ?_
    refine WC.block ?_
    refine WC.seq ?_
    refine WC.region ?_
    refine seg 2 [] [0, 2, 4, 7, 33, 34] [(0, (.pointer (some ⟨g_p0, 0, none⟩))), (2, (iv p2)), (4, (pt g1316)), (7, (iv x1911)), (33, (iv p0.width)), (34, (iv x1911))] [] (fun fb => by kernel_rfl) rfl trivial ?_
    refine WL.done rfl ?_
    refine WX.next ?_
    refine WC.seq ?_
    obtain ⟨x2054, hx2055, hl1917⟩ := bind_some hl1917
    refine WC.cutN (T := Bool) (fun t => [(0, (.pointer (some ⟨g_p0, 0, none⟩))), (2, (iv p2)), (4, (pt g1316)), (33, (iv p0.width)), (34, (iv x1911)), (75, (.bool t))]) (fun t w1 => St NoS w w1 [blk g_p0 (.cells #[(.slice A_p0_rows p0.rows.length c_p0_rows), (iv p0.width), (iv p0.height), (.slice A_p0_edges_North p0.edges.North.length c_p0_edges_North), (.slice A_p0_edges_East p0.edges.East.length c_p0_edges_East), (.slice A_p0_edges_South p0.edges.South.length c_p0_edges_South), (.slice A_p0_edges_West p0.edges.West.length c_p0_edges_West)] 84 (0, 0)), rowR encN_Row A_p0_rows c_p0_rows (tag H_p0_rows p0.rows), nestO subN_Row H_p0_rows p0.rows, rowR encInt A_p0_edges_North c_p0_edges_North p0.edges.North, rowR encInt A_p0_edges_East c_p0_edges_East p0.edges.East, rowR encInt A_p0_edges_South c_p0_edges_South p0.edges.South, rowR encInt A_p0_edges_West c_p0_edges_West p0.edges.West, rowR encInt A_p1_Cells c_p1_Cells p1.Cells] [blk g1316 (.cells #[(.slice A_p1_Cells p1.Cells.length c_p1_Cells), (iv p1.South.e0), (iv p1.South.e1), (iv p1.South.e2), (iv p1.South.e3), (iv p1.South.e4), (iv p1.South.e5), (iv p1.South.e6), (iv p1.South.e7), (iv p1.North.e0), (iv p1.North.e1), (iv p1.North.e2), (iv p1.North.e3), (iv p1.North.e4), (iv p1.North.e5), (iv p1.North.e6), (iv p1.North.e7), (iv p1.West), (iv p1.East)] 88 (0, 0))] ∧ x2054 = t) (fun Kx2054 => ?_) ?_
    ·
     rcases br_some hx2055 with ⟨h2056, hx2055⟩ | ⟨h2056, hx2055⟩
     ·
      rcases br_some hx2055 with ⟨h2063, hx2055⟩ | ⟨h2063, hx2055⟩
      ·
       obtain ⟨h2092, hx2055⟩ := as_some hx2055
       refine WC.regionD ([(7, ⟨g_p0, 5, none⟩, (.slice A_p0_edges_South p0.edges.South.length c_p0_edges_South)), (12, (flatA ⟨g1316, 1, none⟩ (x1911.toNat * 1)), (iv (A8_Int.get p1.South x1911)))], [0, 1, 2, 3, 4, 5, 6, 7, 8, 9, 10, 11, 12, 14, 15, 16, 17, 18, 19, 20, 22, 23, 24, 25, 26, 27, 28, 30, 31, 32, 33, 36, 37, 38], [[], [0], [0, 1], [0, 1, 2], [0, 1, 2, 3], [0, 1, 2, 3, 4], [0, 1, 2, 3, 4, 5], [0, 1, 2, 3, 4, 5, 6], [0, 1, 2], [0, 1, 2], [0, 1, 2], [0, 1, 2, 9, 10], [0, 1, 2, 9, 10, 11], [0, 1, 2, 3, 4, 5, 6, 7, 8, 9, 10, 11, 12], [0, 1, 2, 3, 4, 5, 6, 7, 8, 9, 10, 11, 12, 13], [0, 1, 2, 3, 4, 5, 6, 7, 8, 9, 10, 11, 12, 13, 14], [0, 1, 2, 3, 4, 5, 6, 7, 8, 9, 10, 11, 12, 13, 14, 15], [0, 1, 2, 3, 4, 5, 6, 7, 8, 9, 10, 11, 12, 13, 14, 15, 16], [0, 1, 2, 3, 4, 5, 6, 7, 8, 9, 10, 11, 12, 13, 14, 15, 16], [0, 1, 2, 3, 4, 5, 6, 7, 8, 9, 10, 11, 12, 13, 14, 15, 16, 18], [0, 1, 2, 3, 4, 5, 6, 7, 8, 9, 10, 11, 12, 13, 14, 15, 16, 18, 19], [0, 1, 2, 3, 4, 5, 6, 7, 8, 9, 10, 11, 12, 13, 14, 15, 16, 18, 19, 20], [0, 1, 2, 3, 4, 5, 6, 7, 8, 9, 10, 11, 12, 13, 14, 15, 16, 18, 19, 20, 21], [0, 1, 2, 3, 4, 5, 6, 7, 8, 9, 10, 11, 12, 13, 14, 15, 16, 17, 18, 19, 20, 21, 22], [0, 1, 2, 3, 4, 5, 6, 7, 8, 9, 10, 11, 12, 13, 14, 15, 16, 17, 18, 19, 20, 21, 22, 23], [0, 1, 2, 3, 4, 5, 6, 7, 8, 9, 10, 11, 12, 13, 14, 15, 16, 17, 18, 19, 20, 21, 22, 23, 24], [0, 1, 2, 3, 4, 5, 6, 7, 8, 9, 10, 11, 12, 13, 14, 15, 16, 17, 18, 19, 20, 21, 22, 23, 24, 25], [0, 1, 2, 3, 4, 5, 6, 7, 8, 9, 10, 11, 12, 13, 14, 15, 16, 17, 18, 19, 20, 21, 22, 23, 24, 25, 26], [0, 1, 2, 3, 4, 5, 6, 7, 8, 9, 10, 11, 12, 13, 14, 15, 16, 17, 18, 19, 20, 21, 22, 23, 24, 25, 26, 27], [0, 1, 2, 3, 4, 5, 6, 7, 8, 9, 10, 11, 12, 13, 14, 15, 16, 17, 18, 19, 20, 21, 22, 23, 24, 25, 26, 27, 28], [0, 1, 2, 3, 4, 5, 6, 7, 8, 9, 10, 11, 12, 13, 14, 15, 16, 17, 18, 19, 20, 21, 22, 23, 24], [0, 1, 2, 3, 4, 5, 6, 7, 8, 9, 10, 11, 12, 13, 14, 15, 16, 17, 18, 19, 20, 21, 22, 23, 24], [0, 1, 2, 3, 4, 5, 6, 7, 8, 9, 10, 11, 12, 13, 14, 15, 16, 17, 18, 19, 20, 21, 22, 23, 24], [0, 1, 2, 3, 4, 5, 6, 7, 8, 9, 10, 11, 12, 13, 14, 15, 16, 17, 18, 19, 20, 21, 22, 23, 24, 31, 32], [0, 1, 2, 3, 4, 5, 6, 7, 8, 9, 10, 11, 12, 13, 14, 15, 16, 17, 18, 19, 20, 21, 22, 23, 24, 31, 32, 33], [0, 1, 2, 3, 4, 5, 6, 7, 8, 9, 10, 11, 12, 13, 14, 15, 16, 17, 18, 19, 20, 21, 22, 23, 24, 25, 26, 27, 28, 29, 30, 31, 32, 33, 34], [0, 1, 2, 3, 4, 5, 6, 7, 8, 9, 10, 11, 12, 13, 14, 15, 16, 17, 18, 19, 20, 21, 22, 23, 24, 25, 26, 27, 28, 29, 30, 31, 32, 33, 34, 35], [0, 1, 2, 3, 4, 5, 6, 7, 8, 9, 10, 11, 12, 13, 14, 15, 16, 17, 18, 19, 20, 21, 22, 23, 24, 25, 26, 27, 28, 29, 30, 31, 32, 33, 34, 35, 36], [0, 1, 2, 3, 4, 5, 6, 7, 8, 9, 10, 11, 12, 13, 14, 15, 16, 17, 18, 19, 20, 21, 22, 23, 24, 25, 26, 27, 28, 29, 30, 31, 32, 33, 34, 35, 36, 37]]) [[0, 1, 2, 3, 4, 5, 6, 7, 8, 9, 10, 11, 12, 13, 14, 15, 16, 17, 18, 19, 20, 21, 22, 23, 24, 25, 26, 27, 28, 30, 31, 32, 33, 29, 34, 35, 36, 37, 38], [0, 1, 2, 3, 4, 5, 6, 7, 8, 9, 10, 11, 12, 13, 14, 15, 16, 17, 18, 19, 20, 21, 22, 23, 24, 25, 26, 27, 28, 30, 31, 32, 33, 34, 29, 35, 36, 37, 38]] (by kernel_rfl) (by kernel_rfl) (NoPanic.seq (NoPanic.block (NoPanic.seq (NoPanic.seq (NoPanic.block (NoPanic.seq (NoPanic.body))))))) ?_
       have hS2090 := hS1916.drew
       revert hS2090
       generalize World.drew w1915 = w2089
       intro hS2090
       refine ⟨⟨blk_cell (hS2090.rd 0).1 5 rfl, hS2090.cell 0 rfl _ (cases8 (Q := fun z_ => (#[(.slice A_p1_Cells p1.Cells.length c_p1_Cells), (iv p1.South.e0), (iv p1.South.e1), (iv p1.South.e2), (iv p1.South.e3), (iv p1.South.e4), (iv p1.South.e5), (iv p1.South.e6), (iv p1.South.e7), (iv p1.North.e0), (iv p1.North.e1), (iv p1.North.e2), (iv p1.North.e3), (iv p1.North.e4), (iv p1.North.e5), (iv p1.North.e6), (iv p1.North.e7), (iv p1.West), (iv p1.East)] : Array Value)[1 + z_.toNat * 1]? = some (iv (A8_Int.get p1.South z_))) h2092 (by kernel_rfl) (by kernel_rfl) (by kernel_rfl) (by kernel_rfl) (by kernel_rfl) (by kernel_rfl) (by kernel_rfl) (by kernel_rfl)), trivial⟩, forallC ?_ (forallC ?_ (forallN))⟩
       ·
        refine seg 3 [] [0, 2, 4, 7, 33, 34, 39] [(0, (.pointer (some ⟨g_p0, 0, none⟩))), (2, (iv p2)), (4, (pt g1316)), (7, (iv x1911)), (33, (iv p0.width)), (34, (iv x1911)), (39, (.bool (p2 == 0)))] [] (fun fb => by kernel_rfl) rfl trivial ?_
        refine WL.setB 39 h2056 rfl ?_
        refine segF 13 [.v (.slice A_p0_edges_South p0.edges.South.length c_p0_edges_South), .v (iv (A8_Int.get p1.South x1911))] [0, 2, 4, 7, 33, 34, 39, 44, 45, 49] [(0, (.pointer (some ⟨g_p0, 0, none⟩))), (2, (iv p2)), (4, (pt g1316)), (7, (iv x1911)), (33, (iv p0.width)), (34, (iv x1911)), (39, (.bool true)), (44, (.slice A_p0_edges_South p0.edges.South.length c_p0_edges_South)), (45, (iv x1911)), (49, (iv (A8_Int.get p1.South x1911)))] [.idx (some ⟨0, 0, none⟩) x1911 8] [0, 1] [(7, ⟨g_p0, 5, none⟩, (.slice A_p0_edges_South p0.edges.South.length c_p0_edges_South)), (12, (flatA ⟨g1316, 1, none⟩ (x1911.toNat * 1)), (iv (A8_Int.get p1.South x1911)))] (fun fb => by kernel_rfl) rfl ⟨⟨h2092.1, h2092.2, rfl⟩, trivial⟩ rfl ?_
        obtain ⟨t2093, ht2094, hx2055⟩ := bind_some hx2055
        refine WL.call (some 50) 68 #[(.slice A_p0_edges_South p0.edges.South.length c_p0_edges_South), (iv x1911), (iv (A8_Int.get p1.South x1911))] (fun fb => by kernel_rfl) (fill_at_calls p0.edges.South x1911 (A8_Int.get p1.South x1911) A_p0_edges_South c_p0_edges_South t2093 _ (hS2090.rd 5) ht2094) (fun v w2095 hR2096 => ?_)
        obtain ⟨rfl, hk_⟩ := hR2096
        have hS2097 := hS2090.keepN hk_
        refine ⟨trivial, ?_⟩
        refine seg 17 [] [0, 2, 4, 7, 33, 34, 53] [(0, (.pointer (some ⟨g_p0, 0, none⟩))), (2, (iv p2)), (4, (pt g1316)), (7, (iv x1911)), (33, (iv p0.width)), (34, (iv x1911)), (53, (.bool (!t2093)))] [] (fun fb => by kernel_rfl) rfl trivial ?_
        obtain ⟨x2104, hx2105, hx2055⟩ := bind_some hx2055
        refine WL.cutW (T := Bool) 39 (fun t => [(0, (.pointer (some ⟨g_p0, 0, none⟩))), (2, (iv p2)), (4, (pt g1316)), (33, (iv p0.width)), (34, (iv x1911)), (75, (.bool t))]) (fun t w1 => (St NoS w w1 [blk g_p0 (.cells #[(.slice A_p0_rows p0.rows.length c_p0_rows), (iv p0.width), (iv p0.height), (.slice A_p0_edges_North p0.edges.North.length c_p0_edges_North), (.slice A_p0_edges_East p0.edges.East.length c_p0_edges_East), (.slice A_p0_edges_South p0.edges.South.length c_p0_edges_South), (.slice A_p0_edges_West p0.edges.West.length c_p0_edges_West)] 84 (0, 0)), rowR encN_Row A_p0_rows c_p0_rows (tag H_p0_rows p0.rows), nestO subN_Row H_p0_rows p0.rows, rowR encInt A_p0_edges_North c_p0_edges_North p0.edges.North, rowR encInt A_p0_edges_East c_p0_edges_East p0.edges.East, rowR encInt A_p0_edges_South c_p0_edges_South p0.edges.South, rowR encInt A_p0_edges_West c_p0_edges_West p0.edges.West, rowR encInt A_p1_Cells c_p1_Cells p1.Cells] [blk g1316 (.cells #[(.slice A_p1_Cells p1.Cells.length c_p1_Cells), (iv p1.South.e0), (iv p1.South.e1), (iv p1.South.e2), (iv p1.South.e3), (iv p1.South.e4), (iv p1.South.e5), (iv p1.South.e6), (iv p1.South.e7), (iv p1.North.e0), (iv p1.North.e1), (iv p1.North.e2), (iv p1.North.e3), (iv p1.North.e4), (iv p1.North.e5), (iv p1.North.e6), (iv p1.North.e7), (iv p1.West), (iv p1.East)] 88 (0, 0))] ∧ x2104 = t) ∧ CellsOK [] w1) (fun K => ?_) ?_
        ·
         rcases br_some hx2105 with ⟨h2106, hx2105⟩ | ⟨h2106, hx2105⟩
         ·
          refine WL.setB 53 h2106 rfl ?_
          refine seg 39 [] [0, 2, 4, 33, 34, 75] [(0, (.pointer (some ⟨g_p0, 0, none⟩))), (2, (iv p2)), (4, (pt g1316)), (33, (iv p0.width)), (34, (iv x1911)), (75, (.bool true))] [] (fun fb => by kernel_rfl) rfl trivial ?_
          injection hx2105 with hx2105
          exact WL.to K true [0, 2, 4, 33, 34, 75] rfl ⟨⟨(hS2097.subR [0, 1, 2, 3, 4, 5, 6, 7]).sub [0] (by decide), hx2105.symm⟩, trivial⟩
         refine WL.setB 53 h2106 rfl ?_
         refine seg 25 [.v (iv p0.height)] [0, 2, 4, 7, 33, 34, 53, 61] [(0, (.pointer (some ⟨g_p0, 0, none⟩))), (2, (iv p2)), (4, (pt g1316)), (7, (iv x1911)), (33, (iv p0.width)), (34, (iv x1911)), (53, (.bool false)), (61, (.bool (p2 == (w64 (p0.height - 1)))))] [.cell ⟨g_p0, 2, none⟩ (iv p0.height)] (fun fb => by kernel_rfl) rfl ⟨blk_cell (hS2097.rd 0).1 2 rfl, trivial⟩ ?_
         refine WL.setB 61 h2063 rfl ?_
         refine seg 35 [.v (.slice A_p0_edges_North p0.edges.North.length c_p0_edges_North), .v (iv (A8_Int.get p1.North x1911))] [0, 2, 4, 33, 34, 53, 61, 66, 67, 71] [(0, (.pointer (some ⟨g_p0, 0, none⟩))), (2, (iv p2)), (4, (pt g1316)), (33, (iv p0.width)), (34, (iv x1911)), (53, (.bool false)), (61, (.bool true)), (66, (.slice A_p0_edges_North p0.edges.North.length c_p0_edges_North)), (67, (iv x1911)), (71, (iv (A8_Int.get p1.North x1911)))] [.idx (some ⟨0, 0, none⟩) x1911 8, .cell ⟨g_p0, 3, none⟩ (.slice A_p0_edges_North p0.edges.North.length c_p0_edges_North), .cell (flatA ⟨g1316, 9, none⟩ (x1911.toNat * 1)) (iv (A8_Int.get p1.North x1911))] (fun fb => by kernel_rfl) rfl ⟨⟨h2092.1, h2092.2, rfl⟩, blk_cell (hS2097.rd 0).1 3 rfl, hS2097.cell 0 rfl _ (cases8 (Q := fun z_ => (#[(.slice A_p1_Cells p1.Cells.length c_p1_Cells), (iv p1.South.e0), (iv p1.South.e1), (iv p1.South.e2), (iv p1.South.e3), (iv p1.South.e4), (iv p1.South.e5), (iv p1.South.e6), (iv p1.South.e7), (iv p1.North.e0), (iv p1.North.e1), (iv p1.North.e2), (iv p1.North.e3), (iv p1.North.e4), (iv p1.North.e5), (iv p1.North.e6), (iv p1.North.e7), (iv p1.West), (iv p1.East)] : Array Value)[9 + z_.toNat * 1]? = some (iv (A8_Int.get p1.North z_))) h2092 (by kernel_rfl) (by kernel_rfl) (by kernel_rfl) (by kernel_rfl) (by kernel_rfl) (by kernel_rfl) (by kernel_rfl) (by kernel_rfl)), trivial⟩ ?_
         obtain ⟨t2107, ht2108, hx2105⟩ := bind_some hx2105
         refine WL.call (some 72) 68 #[(.slice A_p0_edges_North p0.edges.North.length c_p0_edges_North), (iv x1911), (iv (A8_Int.get p1.North x1911))] (fun fb => by kernel_rfl) (fill_at_calls p0.edges.North x1911 (A8_Int.get p1.North x1911) A_p0_edges_North c_p0_edges_North t2107 _ (hS2097.rd 3) ht2108) (fun v w2109 hR2110 => ?_)
         obtain ⟨rfl, hk_⟩ := hR2110
         have hS2111 := hS2097.keepN hk_
         refine ⟨trivial, ?_⟩
         refine seg 39 [] [0, 2, 4, 33, 34, 75] [(0, (.pointer (some ⟨g_p0, 0, none⟩))), (2, (iv p2)), (4, (pt g1316)), (33, (iv p0.width)), (34, (iv x1911)), (75, (.bool (!t2107)))] [] (fun fb => by kernel_rfl) rfl trivial ?_
         injection hx2105 with hx2105
         exact WL.to K (!t2107) [0, 2, 4, 33, 34, 75] rfl ⟨⟨(hS2111.subR [0, 1, 2, 3, 4, 5, 6, 7]).sub [0] (by decide), hx2105.symm⟩, trivial⟩
        rintro y2112 w2114 ⟨⟨hS2115, hq2113⟩, hF2116⟩
        subst hq2113
        refine WL.done rfl ?_
        injection hx2055 with hx2055
        exact WX.to Kx2054 x2104 [0, 2, 4, 33, 34, 75] rfl ⟨(hS2115.subR [0, 1, 2, 3, 4, 5, 6, 7]).sub [0] (by decide), hx2055.symm⟩
       refine seg 3 [] [0, 2, 4, 7, 33, 34, 39] [(0, (.pointer (some ⟨g_p0, 0, none⟩))), (2, (iv p2)), (4, (pt g1316)), (7, (iv x1911)), (33, (iv p0.width)), (34, (iv x1911)), (39, (.bool (p2 == 0)))] [] (fun fb => by kernel_rfl) rfl trivial ?_
       refine WL.setB 39 h2056 rfl ?_
       refine segF 13 [.v (.slice A_p0_edges_South p0.edges.South.length c_p0_edges_South), .v (iv (A8_Int.get p1.South x1911))] [0, 2, 4, 7, 33, 34, 39, 44, 45, 49] [(0, (.pointer (some ⟨g_p0, 0, none⟩))), (2, (iv p2)), (4, (pt g1316)), (7, (iv x1911)), (33, (iv p0.width)), (34, (iv x1911)), (39, (.bool true)), (44, (.slice A_p0_edges_South p0.edges.South.length c_p0_edges_South)), (45, (iv x1911)), (49, (iv (A8_Int.get p1.South x1911)))] [.idx (some ⟨0, 0, none⟩) x1911 8] [0, 1] [(7, ⟨g_p0, 5, none⟩, (.slice A_p0_edges_South p0.edges.South.length c_p0_edges_South)), (12, (flatA ⟨g1316, 1, none⟩ (x1911.toNat * 1)), (iv (A8_Int.get p1.South x1911)))] (fun fb => by kernel_rfl) rfl ⟨⟨h2092.1, h2092.2, rfl⟩, trivial⟩ rfl ?_
       obtain ⟨t2117, ht2118, hx2055⟩ := bind_some hx2055
       refine WL.call (some 50) 68 #[(.slice A_p0_edges_South p0.edges.South.length c_p0_edges_South), (iv x1911), (iv (A8_Int.get p1.South x1911))] (fun fb => by kernel_rfl) (fill_at_calls p0.edges.South x1911 (A8_Int.get p1.South x1911) A_p0_edges_South c_p0_edges_South t2117 _ (hS2090.rd 5) ht2118) (fun v w2119 hR2120 => ?_)
       obtain ⟨rfl, hk_⟩ := hR2120
       have hS2121 := hS2090.keepN hk_
       refine ⟨trivial, ?_⟩
       refine seg 17 [] [0, 2, 4, 7, 33, 34, 53] [(0, (.pointer (some ⟨g_p0, 0, none⟩))), (2, (iv p2)), (4, (pt g1316)), (7, (iv x1911)), (33, (iv p0.width)), (34, (iv x1911)), (53, (.bool (!t2117)))] [] (fun fb => by kernel_rfl) rfl trivial ?_
       obtain ⟨x2128, hx2129, hx2055⟩ := bind_some hx2055
       refine WL.cutW (T := Bool) 39 (fun t => [(0, (.pointer (some ⟨g_p0, 0, none⟩))), (2, (iv p2)), (4, (pt g1316)), (33, (iv p0.width)), (34, (iv x1911)), (75, (.bool t))]) (fun t w1 => (St NoS w w1 [blk g_p0 (.cells #[(.slice A_p0_rows p0.rows.length c_p0_rows), (iv p0.width), (iv p0.height), (.slice A_p0_edges_North p0.edges.North.length c_p0_edges_North), (.slice A_p0_edges_East p0.edges.East.length c_p0_edges_East), (.slice A_p0_edges_South p0.edges.South.length c_p0_edges_South), (.slice A_p0_edges_West p0.edges.West.length c_p0_edges_West)] 84 (0, 0)), rowR encN_Row A_p0_rows c_p0_rows (tag H_p0_rows p0.rows), nestO subN_Row H_p0_rows p0.rows, rowR encInt A_p0_edges_North c_p0_edges_North p0.edges.North, rowR encInt A_p0_edges_East c_p0_edges_East p0.edges.East, rowR encInt A_p0_edges_South c_p0_edges_South p0.edges.South, rowR encInt A_p0_edges_West c_p0_edges_West p0.edges.West, rowR encInt A_p1_Cells c_p1_Cells p1.Cells] [blk g1316 (.cells #[(.slice A_p1_Cells p1.Cells.length c_p1_Cells), (iv p1.South.e0), (iv p1.South.e1), (iv p1.South.e2), (iv p1.South.e3), (iv p1.South.e4), (iv p1.South.e5), (iv p1.South.e6), (iv p1.South.e7), (iv p1.North.e0), (iv p1.North.e1), (iv p1.North.e2), (iv p1.North.e3), (iv p1.North.e4), (iv p1.North.e5), (iv p1.North.e6), (iv p1.North.e7), (iv p1.West), (iv p1.East)] 88 (0, 0))] ∧ x2128 = t) ∧ CellsOK [] w1) (fun K => ?_) ?_
       ·
        rcases br_some hx2129 with ⟨h2130, hx2129⟩ | ⟨h2130, hx2129⟩
        ·
         refine WL.setB 53 h2130 rfl ?_
         refine seg 39 [] [0, 2, 4, 33, 34, 75] [(0, (.pointer (some ⟨g_p0, 0, none⟩))), (2, (iv p2)), (4, (pt g1316)), (33, (iv p0.width)), (34, (iv x1911)), (75, (.bool true))] [] (fun fb => by kernel_rfl) rfl trivial ?_
         injection hx2129 with hx2129
         exact WL.to K true [0, 2, 4, 33, 34, 75] rfl ⟨⟨(hS2121.subR [0, 1, 2, 3, 4, 5, 6, 7]).sub [0] (by decide), hx2129.symm⟩, trivial⟩
        refine WL.setB 53 h2130 rfl ?_
        refine seg 25 [.v (iv p0.height)] [0, 2, 4, 7, 33, 34, 53, 61] [(0, (.pointer (some ⟨g_p0, 0, none⟩))), (2, (iv p2)), (4, (pt g1316)), (7, (iv x1911)), (33, (iv p0.width)), (34, (iv x1911)), (53, (.bool false)), (61, (.bool (p2 == (w64 (p0.height - 1)))))] [.cell ⟨g_p0, 2, none⟩ (iv p0.height)] (fun fb => by kernel_rfl) rfl ⟨blk_cell (hS2121.rd 0).1 2 rfl, trivial⟩ ?_
        refine WL.setB 61 h2063 rfl ?_
        refine seg 35 [.v (iv (A8_Int.get p1.North x1911)), .v (.slice A_p0_edges_North p0.edges.North.length c_p0_edges_North)] [0, 2, 4, 33, 34, 53, 61, 66, 67, 71] [(0, (.pointer (some ⟨g_p0, 0, none⟩))), (2, (iv p2)), (4, (pt g1316)), (33, (iv p0.width)), (34, (iv x1911)), (53, (.bool false)), (61, (.bool true)), (66, (.slice A_p0_edges_North p0.edges.North.length c_p0_edges_North)), (67, (iv x1911)), (71, (iv (A8_Int.get p1.North x1911)))] [.idx (some ⟨0, 0, none⟩) x1911 8, .cell (flatA ⟨g1316, 9, none⟩ (x1911.toNat * 1)) (iv (A8_Int.get p1.North x1911)), .cell ⟨g_p0, 3, none⟩ (.slice A_p0_edges_North p0.edges.North.length c_p0_edges_North)] (fun fb => by kernel_rfl) rfl ⟨⟨h2092.1, h2092.2, rfl⟩, hS2121.cell 0 rfl _ (cases8 (Q := fun z_ => (#[(.slice A_p1_Cells p1.Cells.length c_p1_Cells), (iv p1.South.e0), (iv p1.South.e1), (iv p1.South.e2), (iv p1.South.e3), (iv p1.South.e4), (iv p1.South.e5), (iv p1.South.e6), (iv p1.South.e7), (iv p1.North.e0), (iv p1.North.e1), (iv p1.North.e2), (iv p1.North.e3), (iv p1.North.e4), (iv p1.North.e5), (iv p1.North.e6), (iv p1.North.e7), (iv p1.West), (iv p1.East)] : Array Value)[9 + z_.toNat * 1]? = some (iv (A8_Int.get p1.North z_))) h2092 (by kernel_rfl) (by kernel_rfl) (by kernel_rfl) (by kernel_rfl) (by kernel_rfl) (by kernel_rfl) (by kernel_rfl) (by kernel_rfl)), blk_cell (hS2121.rd 0).1 3 rfl, trivial⟩ ?_
        obtain ⟨t2131, ht2132, hx2129⟩ := bind_some hx2129
        refine WL.call (some 72) 68 #[(.slice A_p0_edges_North p0.edges.North.length c_p0_edges_North), (iv x1911), (iv (A8_Int.get p1.North x1911))] (fun fb => by kernel_rfl) (fill_at_calls p0.edges.North x1911 (A8_Int.get p1.North x1911) A_p0_edges_North c_p0_edges_North t2131 _ (hS2121.rd 3) ht2132) (fun v w2133 hR2134 => ?_)
        obtain ⟨rfl, hk_⟩ := hR2134
        have hS2135 := hS2121.keepN hk_
        refine ⟨trivial, ?_⟩
        refine seg 39 [] [0, 2, 4, 33, 34, 75] [(0, (.pointer (some ⟨g_p0, 0, none⟩))), (2, (iv p2)), (4, (pt g1316)), (33, (iv p0.width)), (34, (iv x1911)), (75, (.bool (!t2131)))] [] (fun fb => by kernel_rfl) rfl trivial ?_
        injection hx2129 with hx2129
        exact WL.to K (!t2131) [0, 2, 4, 33, 34, 75] rfl ⟨⟨(hS2135.subR [0, 1, 2, 3, 4, 5, 6, 7]).sub [0] (by decide), hx2129.symm⟩, trivial⟩
       rintro y2136 w2138 ⟨⟨hS2139, hq2137⟩, hF2140⟩
       subst hq2137
       refine WL.done rfl ?_
       injection hx2055 with hx2055
       exact WX.to Kx2054 x2128 [0, 2, 4, 33, 34, 75] rfl ⟨(hS2139.subR [0, 1, 2, 3, 4, 5, 6, 7]).sub [0] (by decide), hx2055.symm⟩
      obtain ⟨h2152, hx2055⟩ := as_some hx2055
      refine WC.regionD ([(7, ⟨g_p0, 5, none⟩, (.slice A_p0_edges_South p0.edges.South.length c_p0_edges_South)), (12, (flatA ⟨g1316, 1, none⟩ (x1911.toNat * 1)), (iv (A8_Int.get p1.South x1911)))], [0, 1, 2, 3, 4, 5, 6, 7, 8, 9, 10, 11, 12, 14, 15, 16, 17, 18, 19, 20, 22, 23, 24, 25, 26, 27, 28, 30, 31, 32, 33, 36, 37, 38], [[], [0], [0, 1], [0, 1, 2], [0, 1, 2, 3], [0, 1, 2, 3, 4], [0, 1, 2, 3, 4, 5], [0, 1, 2, 3, 4, 5, 6], [0, 1, 2], [0, 1, 2], [0, 1, 2], [0, 1, 2, 9, 10], [0, 1, 2, 9, 10, 11], [0, 1, 2, 3, 4, 5, 6, 7, 8, 9, 10, 11, 12], [0, 1, 2, 3, 4, 5, 6, 7, 8, 9, 10, 11, 12, 13], [0, 1, 2, 3, 4, 5, 6, 7, 8, 9, 10, 11, 12, 13, 14], [0, 1, 2, 3, 4, 5, 6, 7, 8, 9, 10, 11, 12, 13, 14, 15], [0, 1, 2, 3, 4, 5, 6, 7, 8, 9, 10, 11, 12, 13, 14, 15, 16], [0, 1, 2, 3, 4, 5, 6, 7, 8, 9, 10, 11, 12, 13, 14, 15, 16], [0, 1, 2, 3, 4, 5, 6, 7, 8, 9, 10, 11, 12, 13, 14, 15, 16, 18], [0, 1, 2, 3, 4, 5, 6, 7, 8, 9, 10, 11, 12, 13, 14, 15, 16, 18, 19], [0, 1, 2, 3, 4, 5, 6, 7, 8, 9, 10, 11, 12, 13, 14, 15, 16, 18, 19, 20], [0, 1, 2, 3, 4, 5, 6, 7, 8, 9, 10, 11, 12, 13, 14, 15, 16, 18, 19, 20, 21], [0, 1, 2, 3, 4, 5, 6, 7, 8, 9, 10, 11, 12, 13, 14, 15, 16, 17, 18, 19, 20, 21, 22], [0, 1, 2, 3, 4, 5, 6, 7, 8, 9, 10, 11, 12, 13, 14, 15, 16, 17, 18, 19, 20, 21, 22, 23], [0, 1, 2, 3, 4, 5, 6, 7, 8, 9, 10, 11, 12, 13, 14, 15, 16, 17, 18, 19, 20, 21, 22, 23, 24], [0, 1, 2, 3, 4, 5, 6, 7, 8, 9, 10, 11, 12, 13, 14, 15, 16, 17, 18, 19, 20, 21, 22, 23, 24, 25], [0, 1, 2, 3, 4, 5, 6, 7, 8, 9, 10, 11, 12, 13, 14, 15, 16, 17, 18, 19, 20, 21, 22, 23, 24, 25, 26], [0, 1, 2, 3, 4, 5, 6, 7, 8, 9, 10, 11, 12, 13, 14, 15, 16, 17, 18, 19, 20, 21, 22, 23, 24, 25, 26, 27], [0, 1, 2, 3, 4, 5, 6, 7, 8, 9, 10, 11, 12, 13, 14, 15, 16, 17, 18, 19, 20, 21, 22, 23, 24, 25, 26, 27, 28], [0, 1, 2, 3, 4, 5, 6, 7, 8, 9, 10, 11, 12, 13, 14, 15, 16, 17, 18, 19, 20, 21, 22, 23, 24], [0, 1, 2, 3, 4, 5, 6, 7, 8, 9, 10, 11, 12, 13, 14, 15, 16, 17, 18, 19, 20, 21, 22, 23, 24], [0, 1, 2, 3, 4, 5, 6, 7, 8, 9, 10, 11, 12, 13, 14, 15, 16, 17, 18, 19, 20, 21, 22, 23, 24], [0, 1, 2, 3, 4, 5, 6, 7, 8, 9, 10, 11, 12, 13, 14, 15, 16, 17, 18, 19, 20, 21, 22, 23, 24, 31, 32], [0, 1, 2, 3, 4, 5, 6, 7, 8, 9, 10, 11, 12, 13, 14, 15, 16, 17, 18, 19, 20, 21, 22, 23, 24, 31, 32, 33], [0, 1, 2, 3, 4, 5, 6, 7, 8, 9, 10, 11, 12, 13, 14, 15, 16, 17, 18, 19, 20, 21, 22, 23, 24, 25, 26, 27, 28, 29, 30, 31, 32, 33, 34], [0, 1, 2, 3, 4, 5, 6, 7, 8, 9, 10, 11, 12, 13, 14, 15, 16, 17, 18, 19, 20, 21, 22, 23, 24, 25, 26, 27, 28, 29, 30, 31, 32, 33, 34, 35], [0, 1, 2, 3, 4, 5, 6, 7, 8, 9, 10, 11, 12, 13, 14, 15, 16, 17, 18, 19, 20, 21, 22, 23, 24, 25, 26, 27, 28, 29, 30, 31, 32, 33, 34, 35, 36], [0, 1, 2, 3, 4, 5, 6, 7, 8, 9, 10, 11, 12, 13, 14, 15, 16, 17, 18, 19, 20, 21, 22, 23, 24, 25, 26, 27, 28, 29, 30, 31, 32, 33, 34, 35, 36, 37]]) [[0, 1, 2, 3, 4, 5, 6, 7, 8, 9, 10, 11, 12, 13, 14, 15, 16, 17, 18, 19, 20, 21, 22, 23, 24, 25, 26, 27, 28, 30, 31, 32, 33, 29, 34, 35, 36, 37, 38], [0, 1, 2, 3, 4, 5, 6, 7, 8, 9, 10, 11, 12, 13, 14, 15, 16, 17, 18, 19, 20, 21, 22, 23, 24, 25, 26, 27, 28, 30, 31, 32, 33, 34, 29, 35, 36, 37, 38]] (by kernel_rfl) (by kernel_rfl) (NoPanic.seq (NoPanic.block (NoPanic.seq (NoPanic.seq (NoPanic.block (NoPanic.seq (NoPanic.body))))))) ?_
      have hS2150 := hS1916.drew
      revert hS2150
      generalize World.drew w1915 = w2149
      intro hS2150
      refine ⟨⟨blk_cell (hS2150.rd 0).1 5 rfl, hS2150.cell 0 rfl _ (cases8 (Q := fun z_ => (#[(.slice A_p1_Cells p1.Cells.length c_p1_Cells), (iv p1.South.e0), (iv p1.South.e1), (iv p1.South.e2), (iv p1.South.e3), (iv p1.South.e4), (iv p1.South.e5), (iv p1.South.e6), (iv p1.South.e7), (iv p1.North.e0), (iv p1.North.e1), (iv p1.North.e2), (iv p1.North.e3), (iv p1.North.e4), (iv p1.North.e5), (iv p1.North.e6), (iv p1.North.e7), (iv p1.West), (iv p1.East)] : Array Value)[1 + z_.toNat * 1]? = some (iv (A8_Int.get p1.South z_))) h2152 (by kernel_rfl) (by kernel_rfl) (by kernel_rfl) (by kernel_rfl) (by kernel_rfl) (by kernel_rfl) (by kernel_rfl) (by kernel_rfl)), trivial⟩, forallC ?_ (forallC ?_ (forallN))⟩
      ·
       refine seg 3 [] [0, 2, 4, 7, 33, 34, 39] [(0, (.pointer (some ⟨g_p0, 0, none⟩))), (2, (iv p2)), (4, (pt g1316)), (7, (iv x1911)), (33, (iv p0.width)), (34, (iv x1911)), (39, (.bool (p2 == 0)))] [] (fun fb => by kernel_rfl) rfl trivial ?_
       refine WL.setB 39 h2056 rfl ?_
       refine segF 13 [.v (.slice A_p0_edges_South p0.edges.South.length c_p0_edges_South), .v (iv (A8_Int.get p1.South x1911))] [0, 2, 4, 7, 33, 34, 39, 44, 45, 49] [(0, (.pointer (some ⟨g_p0, 0, none⟩))), (2, (iv p2)), (4, (pt g1316)), (7, (iv x1911)), (33, (iv p0.width)), (34, (iv x1911)), (39, (.bool true)), (44, (.slice A_p0_edges_South p0.edges.South.length c_p0_edges_South)), (45, (iv x1911)), (49, (iv (A8_Int.get p1.South x1911)))] [.idx (some ⟨0, 0, none⟩) x1911 8] [0, 1] [(7, ⟨g_p0, 5, none⟩, (.slice A_p0_edges_South p0.edges.South.length c_p0_edges_South)), (12, (flatA ⟨g1316, 1, none⟩ (x1911.toNat * 1)), (iv (A8_Int.get p1.South x1911)))] (fun fb => by kernel_rfl) rfl ⟨⟨h2152.1, h2152.2, rfl⟩, trivial⟩ rfl ?_
       obtain ⟨t2153, ht2154, hx2055⟩ := bind_some hx2055
       refine WL.call (some 50) 68 #[(.slice A_p0_edges_South p0.edges.South.length c_p0_edges_South), (iv x1911), (iv (A8_Int.get p1.South x1911))] (fun fb => by kernel_rfl) (fill_at_calls p0.edges.South x1911 (A8_Int.get p1.South x1911) A_p0_edges_South c_p0_edges_South t2153 _ (hS2150.rd 5) ht2154) (fun v w2155 hR2156 => ?_)
       obtain ⟨rfl, hk_⟩ := hR2156
       have hS2157 := hS2150.keepN hk_
       refine ⟨trivial, ?_⟩
       refine seg 17 [] [0, 2, 4, 7, 33, 34, 53] [(0, (.pointer (some ⟨g_p0, 0, none⟩))), (2, (iv p2)), (4, (pt g1316)), (7, (iv x1911)), (33, (iv p0.width)), (34, (iv x1911)), (53, (.bool (!t2153)))] [] (fun fb => by kernel_rfl) rfl trivial ?_
       refine WL.cutV (T := Bool) 39 (fun t => [(75, (.bool t)), (0, (.pointer (some ⟨g_p0, 0, none⟩))), (2, (iv p2)), (4, (pt g1316)), (33, (iv p0.width)), (34, (iv x1911))]) (fun t => (!t2153) = t) (fun K => ?_) ?_
       ·
        rcases Bool.eq_false_or_eq_true (!t2153) with h2158 | h2158
        ·
         refine WL.setB 53 h2158 rfl ?_
         refine seg 39 [] [0, 2, 4, 33, 34, 75] [(0, (.pointer (some ⟨g_p0, 0, none⟩))), (2, (iv p2)), (4, (pt g1316)), (33, (iv p0.width)), (34, (iv x1911)), (75, (.bool true))] [] (fun fb => by kernel_rfl) rfl trivial ?_
         exact WL.toV K true [75, 0, 2, 4, 33, 34] rfl (by first | (rw [h2158]; done) | (rw [h2158]; rfl))
        refine WL.setB 53 h2158 rfl ?_
        refine seg 25 [.v (iv p0.height)] [0, 2, 4, 7, 33, 34, 53, 61] [(0, (.pointer (some ⟨g_p0, 0, none⟩))), (2, (iv p2)), (4, (pt g1316)), (7, (iv x1911)), (33, (iv p0.width)), (34, (iv x1911)), (53, (.bool false)), (61, (.bool (p2 == (w64 (p0.height - 1)))))] [.cell ⟨g_p0, 2, none⟩ (iv p0.height)] (fun fb => by kernel_rfl) rfl ⟨blk_cell (hS2157.rd 0).1 2 rfl, trivial⟩ ?_
        refine WL.setB 61 h2063 rfl ?_
        refine seg 39 [] [0, 2, 4, 33, 34, 75] [(0, (.pointer (some ⟨g_p0, 0, none⟩))), (2, (iv p2)), (4, (pt g1316)), (33, (iv p0.width)), (34, (iv x1911)), (75, (.bool false))] [] (fun fb => by kernel_rfl) rfl trivial ?_
        exact WL.toV K false [75, 0, 2, 4, 33, 34] rfl (by first | (rw [h2158]; done) | (rw [h2158]; rfl))
       rintro b2159 rfl
       refine WL.done rfl ?_
       injection hx2055 with hx2055
       exact WX.to Kx2054 (!t2153) [0, 2, 4, 33, 34, 75] rfl ⟨(hS2157.subR [0, 1, 2, 3, 4, 5, 6, 7]).sub [0] (by decide), hx2055.symm⟩
      refine seg 3 [] [0, 2, 4, 7, 33, 34, 39] [(0, (.pointer (some ⟨g_p0, 0, none⟩))), (2, (iv p2)), (4, (pt g1316)), (7, (iv x1911)), (33, (iv p0.width)), (34, (iv x1911)), (39, (.bool (p2 == 0)))] [] (fun fb => by kernel_rfl) rfl trivial ?_
      refine WL.setB 39 h2056 rfl ?_
      refine segF 13 [.v (.slice A_p0_edges_South p0.edges.South.length c_p0_edges_South), .v (iv (A8_Int.get p1.South x1911))] [0, 2, 4, 7, 33, 34, 39, 44, 45, 49] [(0, (.pointer (some ⟨g_p0, 0, none⟩))), (2, (iv p2)), (4, (pt g1316)), (7, (iv x1911)), (33, (iv p0.width)), (34, (iv x1911)), (39, (.bool true)), (44, (.slice A_p0_edges_South p0.edges.South.length c_p0_edges_South)), (45, (iv x1911)), (49, (iv (A8_Int.get p1.South x1911)))] [.idx (some ⟨0, 0, none⟩) x1911 8] [0, 1] [(7, ⟨g_p0, 5, none⟩, (.slice A_p0_edges_South p0.edges.South.length c_p0_edges_South)), (12, (flatA ⟨g1316, 1, none⟩ (x1911.toNat * 1)), (iv (A8_Int.get p1.South x1911)))] (fun fb => by kernel_rfl) rfl ⟨⟨h2152.1, h2152.2, rfl⟩, trivial⟩ rfl ?_
      obtain ⟨t2160, ht2161, hx2055⟩ := bind_some hx2055
      refine WL.call (some 50) 68 #[(.slice A_p0_edges_South p0.edges.South.length c_p0_edges_South), (iv x1911), (iv (A8_Int.get p1.South x1911))] (fun fb => by kernel_rfl) (fill_at_calls p0.edges.South x1911 (A8_Int.get p1.South x1911) A_p0_edges_South c_p0_edges_South t2160 _ (hS2150.rd 5) ht2161) (fun v w2162 hR2163 => ?_)
      obtain ⟨rfl, hk_⟩ := hR2163
      have hS2164 := hS2150.keepN hk_
      refine ⟨trivial, ?_⟩
      refine seg 17 [] [0, 2, 4, 7, 33, 34, 53] [(0, (.pointer (some ⟨g_p0, 0, none⟩))), (2, (iv p2)), (4, (pt g1316)), (7, (iv x1911)), (33, (iv p0.width)), (34, (iv x1911)), (53, (.bool (!t2160)))] [] (fun fb => by kernel_rfl) rfl trivial ?_
      refine WL.cutV (T := Bool) 39 (fun t => [(75, (.bool t)), (0, (.pointer (some ⟨g_p0, 0, none⟩))), (2, (iv p2)), (4, (pt g1316)), (33, (iv p0.width)), (34, (iv x1911))]) (fun t => (!t2160) = t) (fun K => ?_) ?_
      ·
       rcases Bool.eq_false_or_eq_true (!t2160) with h2165 | h2165
       ·
        refine WL.setB 53 h2165 rfl ?_
        refine seg 39 [] [0, 2, 4, 33, 34, 75] [(0, (.pointer (some ⟨g_p0, 0, none⟩))), (2, (iv p2)), (4, (pt g1316)), (33, (iv p0.width)), (34, (iv x1911)), (75, (.bool true))] [] (fun fb => by kernel_rfl) rfl trivial ?_
        exact WL.toV K true [75, 0, 2, 4, 33, 34] rfl (by first | (rw [h2165]; done) | (rw [h2165]; rfl))
       refine WL.setB 53 h2165 rfl ?_
       refine seg 25 [.v (iv p0.height)] [0, 2, 4, 7, 33, 34, 53, 61] [(0, (.pointer (some ⟨g_p0, 0, none⟩))), (2, (iv p2)), (4, (pt g1316)), (7, (iv x1911)), (33, (iv p0.width)), (34, (iv x1911)), (53, (.bool false)), (61, (.bool (p2 == (w64 (p0.height - 1)))))] [.cell ⟨g_p0, 2, none⟩ (iv p0.height)] (fun fb => by kernel_rfl) rfl ⟨blk_cell (hS2164.rd 0).1 2 rfl, trivial⟩ ?_
       refine WL.setB 61 h2063 rfl ?_
       refine seg 39 [] [0, 2, 4, 33, 34, 75] [(0, (.pointer (some ⟨g_p0, 0, none⟩))), (2, (iv p2)), (4, (pt g1316)), (33, (iv p0.width)), (34, (iv x1911)), (75, (.bool false))] [] (fun fb => by kernel_rfl) rfl trivial ?_
       exact WL.toV K false [75, 0, 2, 4, 33, 34] rfl (by first | (rw [h2165]; done) | (rw [h2165]; rfl))
      rintro b2166 rfl
      refine WL.done rfl ?_
      injection hx2055 with hx2055
      exact WX.to Kx2054 (!t2160) [0, 2, 4, 33, 34, 75] rfl ⟨(hS2164.subR [0, 1, 2, 3, 4, 5, 6, 7]).sub [0] (by decide), hx2055.symm⟩
     rcases br_some hx2055 with ⟨h2167, hx2055⟩ | ⟨h2167, hx2055⟩
     ·
      refine WC.regionD ([], [0, 1, 2, 3, 4, 5, 6, 7, 8, 9, 10, 11, 12, 14, 15, 16, 17, 18, 19, 20, 22, 23, 24, 25, 26, 27, 28, 30, 31, 32, 33, 36, 37, 38], [[], [0], [0, 1], [0, 1, 2], [0, 1, 2, 3], [0, 1, 2, 3, 4], [0, 1, 2, 3, 4, 5], [0, 1, 2, 3, 4, 5, 6], [0, 1, 2], [0, 1, 2], [0, 1, 2], [0, 1, 2, 9, 10], [0, 1, 2, 9, 10, 11], [0, 1, 2, 3, 4, 5, 6, 7, 8, 9, 10, 11, 12], [0, 1, 2, 3, 4, 5, 6, 7, 8, 9, 10, 11, 12, 13], [0, 1, 2, 3, 4, 5, 6, 7, 8, 9, 10, 11, 12, 13, 14], [0, 1, 2, 3, 4, 5, 6, 7, 8, 9, 10, 11, 12, 13, 14, 15], [0, 1, 2, 3, 4, 5, 6, 7, 8, 9, 10, 11, 12, 13, 14, 15, 16], [0, 1, 2, 3, 4, 5, 6, 7, 8, 9, 10, 11, 12, 13, 14, 15, 16], [0, 1, 2, 3, 4, 5, 6, 7, 8, 9, 10, 11, 12, 13, 14, 15, 16, 18], [0, 1, 2, 3, 4, 5, 6, 7, 8, 9, 10, 11, 12, 13, 14, 15, 16, 18, 19], [0, 1, 2, 3, 4, 5, 6, 7, 8, 9, 10, 11, 12, 13, 14, 15, 16, 18, 19, 20], [0, 1, 2, 3, 4, 5, 6, 7, 8, 9, 10, 11, 12, 13, 14, 15, 16, 18, 19, 20, 21], [0, 1, 2, 3, 4, 5, 6, 7, 8, 9, 10, 11, 12, 13, 14, 15, 16, 17, 18, 19, 20, 21, 22], [0, 1, 2, 3, 4, 5, 6, 7, 8, 9, 10, 11, 12, 13, 14, 15, 16, 17, 18, 19, 20, 21, 22, 23], [0, 1, 2, 3, 4, 5, 6, 7, 8, 9, 10, 11, 12, 13, 14, 15, 16, 17, 18, 19, 20, 21, 22, 23, 24], [0, 1, 2, 3, 4, 5, 6, 7, 8, 9, 10, 11, 12, 13, 14, 15, 16, 17, 18, 19, 20, 21, 22, 23, 24, 25], [0, 1, 2, 3, 4, 5, 6, 7, 8, 9, 10, 11, 12, 13, 14, 15, 16, 17, 18, 19, 20, 21, 22, 23, 24, 25, 26], [0, 1, 2, 3, 4, 5, 6, 7, 8, 9, 10, 11, 12, 13, 14, 15, 16, 17, 18, 19, 20, 21, 22, 23, 24, 25, 26, 27], [0, 1, 2, 3, 4, 5, 6, 7, 8, 9, 10, 11, 12, 13, 14, 15, 16, 17, 18, 19, 20, 21, 22, 23, 24, 25, 26, 27, 28], [0, 1, 2, 3, 4, 5, 6, 7, 8, 9, 10, 11, 12, 13, 14, 15, 16, 17, 18, 19, 20, 21, 22, 23, 24], [0, 1, 2, 3, 4, 5, 6, 7, 8, 9, 10, 11, 12, 13, 14, 15, 16, 17, 18, 19, 20, 21, 22, 23, 24], [0, 1, 2, 3, 4, 5, 6, 7, 8, 9, 10, 11, 12, 13, 14, 15, 16, 17, 18, 19, 20, 21, 22, 23, 24], [0, 1, 2, 3, 4, 5, 6, 7, 8, 9, 10, 11, 12, 13, 14, 15, 16, 17, 18, 19, 20, 21, 22, 23, 24, 31, 32], [0, 1, 2, 3, 4, 5, 6, 7, 8, 9, 10, 11, 12, 13, 14, 15, 16, 17, 18, 19, 20, 21, 22, 23, 24, 31, 32, 33], [0, 1, 2, 3, 4, 5, 6, 7, 8, 9, 10, 11, 12, 13, 14, 15, 16, 17, 18, 19, 20, 21, 22, 23, 24, 25, 26, 27, 28, 29, 30, 31, 32, 33, 34], [0, 1, 2, 3, 4, 5, 6, 7, 8, 9, 10, 11, 12, 13, 14, 15, 16, 17, 18, 19, 20, 21, 22, 23, 24, 25, 26, 27, 28, 29, 30, 31, 32, 33, 34, 35], [0, 1, 2, 3, 4, 5, 6, 7, 8, 9, 10, 11, 12, 13, 14, 15, 16, 17, 18, 19, 20, 21, 22, 23, 24, 25, 26, 27, 28, 29, 30, 31, 32, 33, 34, 35, 36], [0, 1, 2, 3, 4, 5, 6, 7, 8, 9, 10, 11, 12, 13, 14, 15, 16, 17, 18, 19, 20, 21, 22, 23, 24, 25, 26, 27, 28, 29, 30, 31, 32, 33, 34, 35, 36, 37]]) [[0, 1, 2, 3, 4, 5, 6, 7, 8, 9, 10, 11, 12, 13, 14, 15, 16, 17, 18, 19, 20, 21, 22, 23, 24, 25, 26, 27, 28, 30, 31, 32, 33, 29, 34, 35, 36, 37, 38], [0, 1, 2, 3, 4, 5, 6, 7, 8, 9, 10, 11, 12, 13, 14, 15, 16, 17, 18, 19, 20, 21, 22, 23, 24, 25, 26, 27, 28, 30, 31, 32, 33, 34, 29, 35, 36, 37, 38]] (by kernel_rfl) (by kernel_rfl) (NoPanic.seq (NoPanic.block (NoPanic.seq (NoPanic.seq (NoPanic.block (NoPanic.seq (NoPanic.body))))))) ?_
      have hS2175 := hS1916.drew
      revert hS2175
      generalize World.drew w1915 = w2174
      intro hS2175
      refine ⟨trivial, forallC ?_ (forallC ?_ (forallN))⟩
      ·
       refine seg 3 [] [0, 2, 4, 7, 33, 34, 39] [(0, (.pointer (some ⟨g_p0, 0, none⟩))), (2, (iv p2)), (4, (pt g1316)), (7, (iv x1911)), (33, (iv p0.width)), (34, (iv x1911)), (39, (.bool (p2 == 0)))] [] (fun fb => by kernel_rfl) rfl trivial ?_
       refine WL.setB 39 h2056 rfl ?_
       refine seg 25 [.v (iv p0.height)] [0, 2, 4, 7, 33, 34, 53, 61] [(0, (.pointer (some ⟨g_p0, 0, none⟩))), (2, (iv p2)), (4, (pt g1316)), (7, (iv x1911)), (33, (iv p0.width)), (34, (iv x1911)), (53, (.bool false)), (61, (.bool (p2 == (w64 (p0.height - 1)))))] [.cell ⟨g_p0, 2, none⟩ (iv p0.height)] (fun fb => by kernel_rfl) rfl ⟨blk_cell (hS2175.rd 0).1 2 rfl, trivial⟩ ?_
       refine WL.setB 61 h2167 rfl ?_
       refine seg 32 [] [0, 2, 4, 33, 34, 53, 61, 65, 67, 68, 69] [(0, (.pointer (some ⟨g_p0, 0, none⟩))), (2, (iv p2)), (4, (pt g1316)), (33, (iv p0.width)), (34, (iv x1911)), (53, (.bool false)), (61, (.bool true)), (65, (.pointer (some ⟨g_p0, 3, none⟩))), (67, (iv x1911)), (68, (iv x1911)), (69, (.pointer (some ⟨g1316, 9, none⟩)))] [] (fun fb => by kernel_rfl) rfl trivial ?_
       obtain ⟨h2176, hx2055⟩ := as_some hx2055
       refine seg 35 [.v (.slice A_p0_edges_North p0.edges.North.length c_p0_edges_North), .v (iv (A8_Int.get p1.North x1911))] [0, 2, 4, 33, 34, 53, 61, 66, 67, 71] [(0, (.pointer (some ⟨g_p0, 0, none⟩))), (2, (iv p2)), (4, (pt g1316)), (33, (iv p0.width)), (34, (iv x1911)), (53, (.bool false)), (61, (.bool true)), (66, (.slice A_p0_edges_North p0.edges.North.length c_p0_edges_North)), (67, (iv x1911)), (71, (iv (A8_Int.get p1.North x1911)))] [.idx (some ⟨0, 0, none⟩) x1911 8, .cell ⟨g_p0, 3, none⟩ (.slice A_p0_edges_North p0.edges.North.length c_p0_edges_North), .cell (flatA ⟨g1316, 9, none⟩ (x1911.toNat * 1)) (iv (A8_Int.get p1.North x1911))] (fun fb => by kernel_rfl) rfl ⟨⟨h2176.1, h2176.2, rfl⟩, blk_cell (hS2175.rd 0).1 3 rfl, hS2175.cell 0 rfl _ (cases8 (Q := fun z_ => (#[(.slice A_p1_Cells p1.Cells.length c_p1_Cells), (iv p1.South.e0), (iv p1.South.e1), (iv p1.South.e2), (iv p1.South.e3), (iv p1.South.e4), (iv p1.South.e5), (iv p1.South.e6), (iv p1.South.e7), (iv p1.North.e0), (iv p1.North.e1), (iv p1.North.e2), (iv p1.North.e3), (iv p1.North.e4), (iv p1.North.e5), (iv p1.North.e6), (iv p1.North.e7), (iv p1.West), (iv p1.East)] : Array Value)[9 + z_.toNat * 1]? = some (iv (A8_Int.get p1.North z_))) h2176 (by kernel_rfl) (by kernel_rfl) (by kernel_rfl) (by kernel_rfl) (by kernel_rfl) (by kernel_rfl) (by kernel_rfl) (by kernel_rfl)), trivial⟩ ?_
       obtain ⟨t2177, ht2178, hx2055⟩ := bind_some hx2055
       refine WL.call (some 72) 68 #[(.slice A_p0_edges_North p0.edges.North.length c_p0_edges_North), (iv x1911), (iv (A8_Int.get p1.North x1911))] (fun fb => by kernel_rfl) (fill_at_calls p0.edges.North x1911 (A8_Int.get p1.North x1911) A_p0_edges_North c_p0_edges_North t2177 _ (hS2175.rd 3) ht2178) (fun v w2179 hR2180 => ?_)
       obtain ⟨rfl, hk_⟩ := hR2180
       have hS2181 := hS2175.keepN hk_
       refine ⟨trivial, ?_⟩
       refine seg 39 [] [0, 2, 4, 33, 34, 75] [(0, (.pointer (some ⟨g_p0, 0, none⟩))), (2, (iv p2)), (4, (pt g1316)), (33, (iv p0.width)), (34, (iv x1911)), (75, (.bool (!t2177)))] [] (fun fb => by kernel_rfl) rfl trivial ?_
       refine WL.done rfl ?_
       injection hx2055 with hx2055
       exact WX.to Kx2054 (!t2177) [0, 2, 4, 33, 34, 75] rfl ⟨(hS2181.subR [0, 1, 2, 3, 4, 5, 6, 7]).sub [0] (by decide), hx2055.symm⟩
      refine seg 3 [] [0, 2, 4, 7, 33, 34, 39] [(0, (.pointer (some ⟨g_p0, 0, none⟩))), (2, (iv p2)), (4, (pt g1316)), (7, (iv x1911)), (33, (iv p0.width)), (34, (iv x1911)), (39, (.bool (p2 == 0)))] [] (fun fb => by kernel_rfl) rfl trivial ?_
      refine WL.setB 39 h2056 rfl ?_
      refine seg 25 [.v (iv p0.height)] [0, 2, 4, 7, 33, 34, 53, 61] [(0, (.pointer (some ⟨g_p0, 0, none⟩))), (2, (iv p2)), (4, (pt g1316)), (7, (iv x1911)), (33, (iv p0.width)), (34, (iv x1911)), (53, (.bool false)), (61, (.bool (p2 == (w64 (p0.height - 1)))))] [.cell ⟨g_p0, 2, none⟩ (iv p0.height)] (fun fb => by kernel_rfl) rfl ⟨blk_cell (hS2175.rd 0).1 2 rfl, trivial⟩ ?_
      refine WL.setB 61 h2167 rfl ?_
      refine seg 32 [] [0, 2, 4, 33, 34, 53, 61, 65, 67, 68, 69] [(0, (.pointer (some ⟨g_p0, 0, none⟩))), (2, (iv p2)), (4, (pt g1316)), (33, (iv p0.width)), (34, (iv x1911)), (53, (.bool false)), (61, (.bool true)), (65, (.pointer (some ⟨g_p0, 3, none⟩))), (67, (iv x1911)), (68, (iv x1911)), (69, (.pointer (some ⟨g1316, 9, none⟩)))] [] (fun fb => by kernel_rfl) rfl trivial ?_
      obtain ⟨h2182, hx2055⟩ := as_some hx2055
      refine seg 35 [.v (iv (A8_Int.get p1.North x1911)), .v (.slice A_p0_edges_North p0.edges.North.length c_p0_edges_North)] [0, 2, 4, 33, 34, 53, 61, 66, 67, 71] [(0, (.pointer (some ⟨g_p0, 0, none⟩))), (2, (iv p2)), (4, (pt g1316)), (33, (iv p0.width)), (34, (iv x1911)), (53, (.bool false)), (61, (.bool true)), (66, (.slice A_p0_edges_North p0.edges.North.length c_p0_edges_North)), (67, (iv x1911)), (71, (iv (A8_Int.get p1.North x1911)))] [.idx (some ⟨0, 0, none⟩) x1911 8, .cell (flatA ⟨g1316, 9, none⟩ (x1911.toNat * 1)) (iv (A8_Int.get p1.North x1911)), .cell ⟨g_p0, 3, none⟩ (.slice A_p0_edges_North p0.edges.North.length c_p0_edges_North)] (fun fb => by kernel_rfl) rfl ⟨⟨h2182.1, h2182.2, rfl⟩, hS2175.cell 0 rfl _ (cases8 (Q := fun z_ => (#[(.slice A_p1_Cells p1.Cells.length c_p1_Cells), (iv p1.South.e0), (iv p1.South.e1), (iv p1.South.e2), (iv p1.South.e3), (iv p1.South.e4), (iv p1.South.e5), (iv p1.South.e6), (iv p1.South.e7), (iv p1.North.e0), (iv p1.North.e1), (iv p1.North.e2), (iv p1.North.e3), (iv p1.North.e4), (iv p1.North.e5), (iv p1.North.e6), (iv p1.North.e7), (iv p1.West), (iv p1.East)] : Array Value)[9 + z_.toNat * 1]? = some (iv (A8_Int.get p1.North z_))) h2182 (by kernel_rfl) (by kernel_rfl) (by kernel_rfl) (by kernel_rfl) (by kernel_rfl) (by kernel_rfl) (by kernel_rfl) (by kernel_rfl)), blk_cell (hS2175.rd 0).1 3 rfl, trivial⟩ ?_
      obtain ⟨t2183, ht2184, hx2055⟩ := bind_some hx2055
      refine WL.call (some 72) 68 #[(.slice A_p0_edges_North p0.edges.North.length c_p0_edges_North), (iv x1911), (iv (A8_Int.get p1.North x1911))] (fun fb => by kernel_rfl) (fill_at_calls p0.edges.North x1911 (A8_Int.get p1.North x1911) A_p0_edges_North c_p0_edges_North t2183 _ (hS2175.rd 3) ht2184) (fun v w2185 hR2186 => ?_)
      obtain ⟨rfl, hk_⟩ := hR2186
      have hS2187 := hS2175.keepN hk_
      refine ⟨trivial, ?_⟩
      refine seg 39 [] [0, 2, 4, 33, 34, 75] [(0, (.pointer (some ⟨g_p0, 0, none⟩))), (2, (iv p2)), (4, (pt g1316)), (33, (iv p0.width)), (34, (iv x1911)), (75, (.bool (!t2183)))] [] (fun fb => by kernel_rfl) rfl trivial ?_
      refine WL.done rfl ?_
      injection hx2055 with hx2055
      exact WX.to Kx2054 (!t2183) [0, 2, 4, 33, 34, 75] rfl ⟨(hS2187.subR [0, 1, 2, 3, 4, 5, 6, 7]).sub [0] (by decide), hx2055.symm⟩
     refine WC.regionD ([], [0, 1, 2, 3, 4, 5, 6, 7, 8, 9, 10, 11, 12, 14, 15, 16, 17, 18, 19, 20, 22, 23, 24, 25, 26, 27, 28, 30, 31, 32, 33, 36, 37, 38], [[], [0], [0, 1], [0, 1, 2], [0, 1, 2, 3], [0, 1, 2, 3, 4], [0, 1, 2, 3, 4, 5], [0, 1, 2, 3, 4, 5, 6], [0, 1, 2], [0, 1, 2], [0, 1, 2], [0, 1, 2, 9, 10], [0, 1, 2, 9, 10, 11], [0, 1, 2, 3, 4, 5, 6, 7, 8, 9, 10, 11, 12], [0, 1, 2, 3, 4, 5, 6, 7, 8, 9, 10, 11, 12, 13], [0, 1, 2, 3, 4, 5, 6, 7, 8, 9, 10, 11, 12, 13, 14], [0, 1, 2, 3, 4, 5, 6, 7, 8, 9, 10, 11, 12, 13, 14, 15], [0, 1, 2, 3, 4, 5, 6, 7, 8, 9, 10, 11, 12, 13, 14, 15, 16], [0, 1, 2, 3, 4, 5, 6, 7, 8, 9, 10, 11, 12, 13, 14, 15, 16], [0, 1, 2, 3, 4, 5, 6, 7, 8, 9, 10, 11, 12, 13, 14, 15, 16, 18], [0, 1, 2, 3, 4, 5, 6, 7, 8, 9, 10, 11, 12, 13, 14, 15, 16, 18, 19], [0, 1, 2, 3, 4, 5, 6, 7, 8, 9, 10, 11, 12, 13, 14, 15, 16, 18, 19, 20], [0, 1, 2, 3, 4, 5, 6, 7, 8, 9, 10, 11, 12, 13, 14, 15, 16, 18, 19, 20, 21], [0, 1, 2, 3, 4, 5, 6, 7, 8, 9, 10, 11, 12, 13, 14, 15, 16, 17, 18, 19, 20, 21, 22], [0, 1, 2, 3, 4, 5, 6, 7, 8, 9, 10, 11, 12, 13, 14, 15, 16, 17, 18, 19, 20, 21, 22, 23], [0, 1, 2, 3, 4, 5, 6, 7, 8, 9, 10, 11, 12, 13, 14, 15, 16, 17, 18, 19, 20, 21, 22, 23, 24], [0, 1, 2, 3, 4, 5, 6, 7, 8, 9, 10, 11, 12, 13, 14, 15, 16, 17, 18, 19, 20, 21, 22, 23, 24, 25], [0, 1, 2, 3, 4, 5, 6, 7, 8, 9, 10, 11, 12, 13, 14, 15, 16, 17, 18, 19, 20, 21, 22, 23, 24, 25, 26], [0, 1, 2, 3, 4, 5, 6, 7, 8, 9, 10, 11, 12, 13, 14, 15, 16, 17, 18, 19, 20, 21, 22, 23, 24, 25, 26, 27], [0, 1, 2, 3, 4, 5, 6, 7, 8, 9, 10, 11, 12, 13, 14, 15, 16, 17, 18, 19, 20, 21, 22, 23, 24, 25, 26, 27, 28], [0, 1, 2, 3, 4, 5, 6, 7, 8, 9, 10, 11, 12, 13, 14, 15, 16, 17, 18, 19, 20, 21, 22, 23, 24], [0, 1, 2, 3, 4, 5, 6, 7, 8, 9, 10, 11, 12, 13, 14, 15, 16, 17, 18, 19, 20, 21, 22, 23, 24], [0, 1, 2, 3, 4, 5, 6, 7, 8, 9, 10, 11, 12, 13, 14, 15, 16, 17, 18, 19, 20, 21, 22, 23, 24], [0, 1, 2, 3, 4, 5, 6, 7, 8, 9, 10, 11, 12, 13, 14, 15, 16, 17, 18, 19, 20, 21, 22, 23, 24, 31, 32], [0, 1, 2, 3, 4, 5, 6, 7, 8, 9, 10, 11, 12, 13, 14, 15, 16, 17, 18, 19, 20, 21, 22, 23, 24, 31, 32, 33], [0, 1, 2, 3, 4, 5, 6, 7, 8, 9, 10, 11, 12, 13, 14, 15, 16, 17, 18, 19, 20, 21, 22, 23, 24, 25, 26, 27, 28, 29, 30, 31, 32, 33, 34], [0, 1, 2, 3, 4, 5, 6, 7, 8, 9, 10, 11, 12, 13, 14, 15, 16, 17, 18, 19, 20, 21, 22, 23, 24, 25, 26, 27, 28, 29, 30, 31, 32, 33, 34, 35], [0, 1, 2, 3, 4, 5, 6, 7, 8, 9, 10, 11, 12, 13, 14, 15, 16, 17, 18, 19, 20, 21, 22, 23, 24, 25, 26, 27, 28, 29, 30, 31, 32, 33, 34, 35, 36], [0, 1, 2, 3, 4, 5, 6, 7, 8, 9, 10, 11, 12, 13, 14, 15, 16, 17, 18, 19, 20, 21, 22, 23, 24, 25, 26, 27, 28, 29, 30, 31, 32, 33, 34, 35, 36, 37]]) [[0, 1, 2, 3, 4, 5, 6, 7, 8, 9, 10, 11, 12, 13, 14, 15, 16, 17, 18, 19, 20, 21, 22, 23, 24, 25, 26, 27, 28, 30, 31, 32, 33, 29, 34, 35, 36, 37, 38], [0, 1, 2, 3, 4, 5, 6, 7, 8, 9, 10, 11, 12, 13, 14, 15, 16, 17, 18, 19, 20, 21, 22, 23, 24, 25, 26, 27, 28, 30, 31, 32, 33, 34, 29, 35, 36, 37, 38]] (by kernel_rfl) (by kernel_rfl) (NoPanic.seq (NoPanic.block (NoPanic.seq (NoPanic.seq (NoPanic.block (NoPanic.seq (NoPanic.body))))))) ?_
     have hS2189 := hS1916.drew
     revert hS2189
     generalize World.drew w1915 = w2188
     intro hS2189
     refine ⟨trivial, forallC ?_ (forallC ?_ (forallN))⟩
     ·
      refine seg 3 [] [0, 2, 4, 7, 33, 34, 39] [(0, (.pointer (some ⟨g_p0, 0, none⟩))), (2, (iv p2)), (4, (pt g1316)), (7, (iv x1911)), (33, (iv p0.width)), (34, (iv x1911)), (39, (.bool (p2 == 0)))] [] (fun fb => by kernel_rfl) rfl trivial ?_
      refine WL.setB 39 h2056 rfl ?_
      refine seg 25 [.v (iv p0.height)] [0, 2, 4, 7, 33, 34, 53, 61] [(0, (.pointer (some ⟨g_p0, 0, none⟩))), (2, (iv p2)), (4, (pt g1316)), (7, (iv x1911)), (33, (iv p0.width)), (34, (iv x1911)), (53, (.bool false)), (61, (.bool (p2 == (w64 (p0.height - 1)))))] [.cell ⟨g_p0, 2, none⟩ (iv p0.height)] (fun fb => by kernel_rfl) rfl ⟨blk_cell (hS2189.rd 0).1 2 rfl, trivial⟩ ?_
      refine WL.setB 61 h2167 rfl ?_
      refine seg 39 [] [0, 2, 4, 33, 34, 75] [(0, (.pointer (some ⟨g_p0, 0, none⟩))), (2, (iv p2)), (4, (pt g1316)), (33, (iv p0.width)), (34, (iv x1911)), (75, (.bool false))] [] (fun fb => by kernel_rfl) rfl trivial ?_
      refine WL.done rfl ?_
      injection hx2055 with hx2055
      exact WX.to Kx2054 false [0, 2, 4, 33, 34, 75] rfl ⟨(hS2189.subR [0, 1, 2, 3, 4, 5, 6, 7]).sub [0] (by decide), hx2055.symm⟩
     refine seg 3 [] [0, 2, 4, 7, 33, 34, 39] [(0, (.pointer (some ⟨g_p0, 0, none⟩))), (2, (iv p2)), (4, (pt g1316)), (7, (iv x1911)), (33, (iv p0.width)), (34, (iv x1911)), (39, (.bool (p2 == 0)))] [] (fun fb => by kernel_rfl) rfl trivial ?_
     refine WL.setB 39 h2056 rfl ?_
     refine seg 25 [.v (iv p0.height)] [0, 2, 4, 7, 33, 34, 53, 61] [(0, (.pointer (some ⟨g_p0, 0, none⟩))), (2, (iv p2)), (4, (pt g1316)), (7, (iv x1911)), (33, (iv p0.width)), (34, (iv x1911)), (53, (.bool false)), (61, (.bool (p2 == (w64 (p0.height - 1)))))] [.cell ⟨g_p0, 2, none⟩ (iv p0.height)] (fun fb => by kernel_rfl) rfl ⟨blk_cell (hS2189.rd 0).1 2 rfl, trivial⟩ ?_
     refine WL.setB 61 h2167 rfl ?_
     refine seg 39 [] [0, 2, 4, 33, 34, 75] [(0, (.pointer (some ⟨g_p0, 0, none⟩))), (2, (iv p2)), (4, (pt g1316)), (33, (iv p0.width)), (34, (iv x1911)), (75, (.bool false))] [] (fun fb => by kernel_rfl) rfl trivial ?_
     refine WL.done rfl ?_
     injection hx2055 with hx2055
     exact WX.to Kx2054 false [0, 2, 4, 33, 34, 75] rfl ⟨(hS2189.subR [0, 1, 2, 3, 4, 5, 6, 7]).sub [0] (by decide), hx2055.symm⟩
    rintro y2193 w2190 ⟨hS2191, hq2192⟩
    subst hq2192
    refine WX.next ?_
    rcases br_some hl1917 with ⟨h2194, hl1917⟩ | ⟨h2194, hl1917⟩
    ·refine WC.condT2 (fun fb => by kernel_rfl) h2194 ?_
     refine WC.seq ?_
     refine WC.region ?_
     refine seg 1 [] [6] [(6, (.bool false))] [] (fun fb => by kernel_rfl) rfl trivial ?_
     refine WL.done rfl ?_
     refine WX.next ?_
     refine WC.ret ?_
     injection hl1917 with hl1917
     subst hl1917
     injection hf with hf
     subst hf
     exact WX.blockR (WX.thenR (WX.thenR (WX.blockR (WX.thenR (WX.ret_ [] (.bool false) [] (fun fb => by kernel_rfl) trivial ⟨_, rfl, rfl, hS2191.keep⟩)))))
    refine WC.condF2 (fun fb => by kernel_rfl) h2194 ?_
    refine WC.skip ?_
    refine WX.blockN (WX.next ?_)
    refine WC.region ?_
    refine seg 2 [] [0, 2, 4, 33, 34] [(0, (.pointer (some ⟨g_p0, 0, none⟩))), (2, (iv p2)), (4, (pt g1316)), (33, (iv p0.width)), (34, (iv (w64 (x1911 + 1))))] [] (fun fb => by kernel_rfl) rfl trivial ?_
    refine WL.done rfl ?_
    exact WX.again k1914 (Nat.lt_succ_self _) (w64 (x1911 + 1)) [0, 2, 4, 33, 34] rfl ⟨(hS2191.subR [0, 1, 2, 3, 4, 5, 6, 7]).sub [0] (by decide), hl1917⟩
   refine WC.condF2 (fun fb => by kernel_rfl) h1918 ?_
   refine WC.exit ?_
   injection hl1917 with hl1917
   exact WX.thenX (WX.thenX (WX.blockHere (WX.to Kx1912 () [] rfl ⟨(hS1916.subR [0, 1, 2, 3, 4, 5, 6, 7]).sub [] (by decide), hl1917.symm⟩)))
 rintro y2198 w2195 ⟨hS2196, hq2197⟩
 subst hq2197
 have hf := sum_inr hf
 refine WX.next ?_
 refine WC.seq ?_
 refine WC.region ?_
 refine seg 1 [] [6] [(6, (.bool true))] [] (fun fb => by kernel_rfl) rfl trivial ?_
 refine WL.done rfl ?_
 refine WX.next ?_
 refine WC.ret ?_
 injection hf with hf
 subst hf
 exact WX.ret_ [] (.bool true) [] (fun fb => by kernel_rfl) trivial ⟨_, rfl, rfl, hS2196.keep⟩
end Gp
