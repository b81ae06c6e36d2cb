/- Walks: each function of the program computes its plain function. -/
import Derived.Test.YtjfmjfheeijfiaaDoorGx0
set_option linter.unusedVariables false
set_option linter.unusedSimpArgs false
set_option maxHeartbeats 4000000
namespace Gp
open Go Gw Go.Proofs
theorem rows_All_calls (k : Nat) (p0 : List Tile) (p1 : Int) (A_p0 : Option Addr) (c_p0 : Nat) (r : (List Row)) (w : World) (hR0 : RO NoS w (rowR enc_Tile A_p0 c_p0 p0)) (hf : rows_All k p0 p1 = some r) :
  CallsR Tryd.prog 83 #[(.slice A_p0 p0.length c_p0), (iv p1)] w (fun v w' => ∃ (A1_ : Option Addr), ∃ (c1_ : Nat), ∃ (h1_ : Nat → HF), v = (.slice A1_ r.length c1_) ∧ St NoS w w' [] [rowO 85 encN_Row A1_ c1_ (tag h1_ r), poolO [nestO subN_Row h1_ r]]) := by
 have hS : St NoS w w [rowR enc_Tile A_p0 c_p0 p0] [] := St.init (ro_cons hR0 (ro_nil _ _))
 refine enter 14 Tryd.func83 rfl Tryd.ntmps83 rfl ?_
 unfold rows_All at hf
 refine WC.seq ?_
 refine WC.region ?_
 refine WL.new hS 2 [] (fun g => (.pointer (some ⟨g, 0, none⟩))) (.cells #[(.slice A_p0 p0.length c_p0)] 22 (0, 0)) [] (fun fb g => by kernel_rfl) trivial (fun g2344 w2345 hS2346 => ?_)
 refine ⟨trivial, ?_⟩
 refine WL.new hS2346 3 [] (fun g => (.pointer (some ⟨g, 0, none⟩))) (.cells #[(iv p1)] 3 (0, 0)) [] (fun fb g => by kernel_rfl) trivial (fun g2348 w2349 hS2350 => ?_)
 refine ⟨trivial, ?_⟩
 refine seg 3 [] [2, 3] [(2, (pt g2344)), (3, (pt g2348))] [] (fun fb => by kernel_rfl) rfl trivial ?_
 refine WL.done rfl ?_
 refine WX.next ?_
 refine WC.seq ?_
 refine WC.region ?_
 refine WL.new hS2350 5 [] (fun g => (.pointer (some ⟨g, 0, none⟩))) (.cells #[(.slice none 0 0)] 79 (0, 0)) [] (fun fb g => by kernel_rfl) trivial (fun g2352 w2353 hS2354 => ?_)
 refine ⟨trivial, ?_⟩
 refine WL.done rfl ?_
 refine WX.next ?_
 refine WC.seq ?_
 refine WC.region ?_
 refine seg 1 [.v (iv p1)] [2, 3, 5, 8] [(2, (pt g2344)), (3, (pt g2348)), (5, (pt g2352)), (8, (iv p1))] [.cell ⟨g2348, 0, none⟩ (iv p1)] (fun fb => by kernel_rfl) rfl ⟨hS2354.cell 1 rfl 0 rfl, trivial⟩ ?_
 obtain ⟨h2356, hf⟩ := as_some hf
 refine WL.make hS2354 (e := encInt) (T := 3) (tS := 25) (z := (iv 0)) (bytes := 8) (d := 9) (0 : Int) p1 (fun fb => by kernel_rfl) (by kernel_rfl) (by kernel_rfl) rfl (by decide) h2356 (by decide) (fun g2357 w2358 hS2359 => ?_)
 refine ⟨trivial, ?_⟩
 refine WL.new hS2359 6 [] (fun g => (.pointer (some ⟨g, 0, none⟩))) (.cells #[(.slice none 0 0)] 25 (0, 0)) [] (fun fb g => by kernel_rfl) trivial (fun g2360 w2361 hS2362 => ?_)
 refine ⟨trivial, ?_⟩
 refine WL.store hS2362 0 rfl [(0, (.slice (some ⟨g2357, 0, none⟩) (List.replicate p1.toNat (0 : Int)).length p1.toNat))] #[(.slice (some ⟨g2357, 0, none⟩) (List.replicate p1.toNat (0 : Int)).length p1.toNat)] (fun fb => by kernel_rfl) (by kernel_rfl) rfl [1, 2, 3, 4] (by decide) (by decide) (fun w2364 hS2365 => ?_)
 refine ⟨trivial, ?_⟩
 refine WL.done rfl ?_
 refine WX.next ?_
 refine WC.seq ?_
 refine WC.region ?_
 refine WL.new hS2365 7 [] (fun g => (.pointer (some ⟨g, 0, none⟩))) (.cells #[.nilFunc] 129 (0, 0)) [] (fun fb g => by kernel_rfl) trivial (fun g2366 w2367 hS2368 => ?_)
 refine ⟨trivial, ?_⟩
 refine WL.done rfl ?_
 refine WX.next ?_
 refine WC.seq ?_
 refine WC.region ?_
 refine seg 1 [] [5, 7, 10] [(5, (pt g2352)), (7, (pt g2366)), (10, (.func (.func 97) #[] #[(pt g2348), (pt g2352), (pt g2344), (pt g2360), (pt g2366)]))] [] (fun fb => by kernel_rfl) rfl trivial ?_
 refine WL.store hS2368 0 rfl [(0, (.func (.func 97) #[] #[(pt g2348), (pt g2352), (pt g2344), (pt g2360), (pt g2366)]))] #[(.func (.func 97) #[] #[(pt g2348), (pt g2352), (pt g2344), (pt g2360), (pt g2366)])] (fun fb => by kernel_rfl) (by kernel_rfl) rfl [1, 2, 3, 4, 5] (by decide) (by decide) (fun w2370 hS2371 => ?_)
 refine ⟨trivial, ?_⟩
 refine WL.done rfl ?_
 refine WX.next ?_
 refine WC.seq ?_
 refine WC.region ?_
 refine seg 1 [.v (.func (.func 97) #[] #[(pt g2348), (pt g2352), (pt g2344), (pt g2360), (pt g2366)])] [5, 11] [(5, (pt g2352)), (11, (.func (.func 97) #[] #[(pt g2348), (pt g2352), (pt g2344), (pt g2360), (pt g2366)]))] [.cell ⟨g2366, 0, none⟩ (.func (.func 97) #[] #[(pt g2348), (pt g2352), (pt g2344), (pt g2360), (pt g2366)])] (fun fb => by kernel_rfl) rfl ⟨hS2371.cell 0 rfl 0 rfl, trivial⟩ ?_
 have hS3022 : St NoS w w2370 [rowR enc_Tile A_p0 c_p0 p0] [rowO 85 encN_Row none 0 (tag h0 ([] : List Row)), blk g2366 (.cells #[(.func (.func 97) #[] #[(pt g2348), (pt g2352), (pt g2344), (pt g2360), (pt g2366)])] 129 (0, 0)), blk g2360 (.cells #[(.slice (some ⟨g2357, 0, none⟩) (List.replicate p1.toNat (0 : Int)).length p1.toNat)] 25 (0, 0)), rowO 3 encInt (some ⟨g2357, 0, none⟩) p1.toNat (List.replicate p1.toNat (0 : Int)), blk g2352 (.cells #[(.slice none 0 0)] 79 (0, 0)), blk g2348 (.cells #[(iv p1)] 3 (0, 0)), blk g2344 (.cells #[(.slice A_p0 p0.length c_p0)] 22 (0, 0))] := hS2371.nilrow 85 encN_Row
 have hS3023 := hS3022.poolNil subN_Row h0
 obtain ⟨t3024, ht3025, hf⟩ := bind_some hf
 refine WL.call (some 12) 97 #[(iv 0), (pt g2348), (pt g2352), (pt g2344), (pt g2360), (pt g2366)] (fun fb => by kernel_rfl) (rows_All_1_calls _ 0 p1 ([] : List Row) p0 (List.replicate p1.toNat (0 : Int)) g2348 g2352 none 0 h0 g2344 A_p0 c_p0 g2360 (some ⟨g2357, 0, none⟩) p1.toNat g2366 t3024 _ (hS3023.owT [5, 1, 0, 3, 4] 6 (by decide)) (hS3023.owT [5, 1, 0, 3, 4] 7 (by decide)) (hS3023.rdT [5, 1, 0, 3, 4] 0) (hS3023.owT [5, 1, 0, 3, 4] 2 (by decide)) (hS3023.io [5, 1, 0, 3, 4] (by decide)) ht3025) (fun v w3026 hR3027 => ?_)
 obtain ⟨A3029, c3030, H3031, A3032, c3033, rfl, hk_⟩ := hR3027
 have hS3028 : St NoS w w3026 [rowR enc_Tile A_p0 c_p0 p0] [blk g2352 (.cells #[(.slice A3029 t3024.1.length c3030)] 79 (0, 0)), rowO 85 encN_Row A3029 c3030 (tag H3031 t3024.1), poolO [nestO subN_Row H3031 t3024.1], blk g2360 (.cells #[(.slice A3032 t3024.2.length c3033)] 25 (0, 0)), rowO 3 encInt A3032 c3033 t3024.2, blk g2366 (.cells #[(.func (.func 97) #[] #[(pt g2348), (pt g2352), (pt g2344), (pt g2360), (pt g2366)])] 129 (0, 0)), blk g2348 (.cells #[(iv p1)] 3 (0, 0)), blk g2344 (.cells #[(.slice A_p0 p0.length c_p0)] 22 (0, 0))] := hS3023.call hk_ [5, 1, 0, 3, 4] [2, 6, 7] (fun g hg => fpL_sel g hg) (by decide) (by decide)
 refine ⟨trivial, ?_⟩
 refine WL.done rfl ?_
 refine WX.next ?_
 refine WC.seq ?_
 refine WC.region ?_
 refine seg 2 [.v (.slice A3029 t3024.1.length c3030)] [4] [(4, (.slice A3029 t3024.1.length c3030))] [.cell ⟨g2352, 0, none⟩ (.slice A3029 t3024.1.length c3030)] (fun fb => by kernel_rfl) rfl ⟨hS3028.cell 0 rfl 0 rfl, trivial⟩ ?_
 refine WL.done rfl ?_
 refine WX.next ?_
 refine WC.ret ?_
 injection hf with hf
 subst hf
 exact WX.ret_ [] (.slice A3029 t3024.1.length c3030) [] (fun fb => by kernel_rfl) trivial ⟨_, rfl, A3029, c3030, H3031, rfl, (hS3028.sub [1, 2] (by decide)).noR⟩
theorem fill_begin_calls (k : Nat) (p0 : List Tile) (p1 : Int) (p2 : Int) (p3 : Edges) (A_p0 : Option Addr) (c_p0 : Nat) (A_p3_North : Option Addr) (c_p3_North : Nat) (A_p3_East : Option Addr) (c_p3_East : Nat) (A_p3_South : Option Addr) (c_p3_South : Nat) (A_p3_West : Option Addr) (c_p3_West : Nat) (r : (Option Job) × Int) (w : World) (hR0 : RO NoS w (rowR enc_Tile A_p0 c_p0 p0)) (hR1 : RO NoS w (rowR encInt A_p3_North c_p3_North p3.North)) (hR2 : RO NoS w (rowR encInt A_p3_East c_p3_East p3.East)) (hR3 : RO NoS w (rowR encInt A_p3_South c_p3_South p3.South)) (hR4 : RO NoS w (rowR encInt A_p3_West c_p3_West p3.West)) (hf : fill_begin k p0 p1 p2 p3 = some r) :
  CallsR Tryd.prog 58 #[(.slice A_p0 p0.length c_p0), (iv p1), (iv p2), (.agg #[(.slice A_p3_North p3.North.length c_p3_North), (.slice A_p3_East p3.East.length c_p3_East), (.slice A_p3_South p3.South.length c_p3_South), (.slice A_p3_West p3.West.length c_p3_West)])] w (fun v w' => ∃ (g1_ : Nat), ∃ (A2_ : Option Addr), ∃ (c2_ : Nat), ∃ (h2_ : Nat → HF), v = (.tuple #[(optP r.1 g1_), (iv r.2)]) ∧ optS r.1 (Keeps NoS w w') (fun y_ => St NoS w w' [] [blk g1_ (.cells #[(.slice A2_ y_.rows.length c2_), (iv y_.width), (iv y_.height), (.slice A_p3_North p3.North.length c_p3_North), (.slice A_p3_East p3.East.length c_p3_East), (.slice A_p3_South p3.South.length c_p3_South), (.slice A_p3_West p3.West.length c_p3_West)] 81 (0, 0)), rowO 85 encN_Row A2_ c2_ (tag h2_ y_.rows), poolO [nestO subN_Row h2_ y_.rows]])) := by
 have hS : St NoS w w [rowR enc_Tile A_p0 c_p0 p0, rowR encInt A_p3_North c_p3_North p3.North, rowR encInt A_p3_East c_p3_East p3.East, rowR encInt A_p3_South c_p3_South p3.South, rowR encInt A_p3_West c_p3_West p3.West] [] := St.init (ro_cons hR0 (ro_cons hR1 (ro_cons hR2 (ro_cons hR3 (ro_cons hR4 (ro_nil _ _))))))
 refine enter 76 Tryd.func58 rfl Tryd.ntmps58 rfl ?_
 unfold fill_begin at hf
 refine WC.seq ?_
 refine WC.region ?_
 refine WL.new hS 7 [] (fun g => (.pointer (some ⟨g, 0, none⟩))) (.cells #[(.slice A_p3_North p3.North.length c_p3_North), (.slice A_p3_East p3.East.length c_p3_East), (.slice A_p3_South p3.South.length c_p3_South), (.slice A_p3_West p3.West.length c_p3_West)] 44 (0, 0)) [] (fun fb g => by kernel_rfl) trivial (fun g3060 w3061 hS3062 => ?_)
 refine ⟨trivial, ?_⟩
 refine seg 3 [] [0, 1, 2, 7] [(0, (.slice A_p0 p0.length c_p0)), (1, (iv p1)), (2, (iv p2)), (7, (pt g3060))] [] (fun fb => by kernel_rfl) rfl trivial ?_
 refine WL.done rfl ?_
 refine WX.next ?_
 refine WC.seq ?_
 refine WC.seq ?_
 refine WC.region ?_
 refine seg 1 [] [0, 1, 2, 7, 12] [(0, (.slice A_p0 p0.length c_p0)), (1, (iv p1)), (2, (iv p2)), (7, (pt g3060)), (12, (.slice A_p0 p0.length c_p0))] [] (fun fb => by kernel_rfl) rfl trivial ?_
 obtain ⟨t3064, ht3065, hf⟩ := bind_some hf
 refine WL.call (some 13) 52 #[(.slice A_p0 p0.length c_p0)] (fun fb => by kernel_rfl) (tile_Valid_calls _ p0 A_p0 c_p0 t3064 _ (hS3062.rd 0) ht3065) (fun v w3066 hR3067 => ?_)
 obtain ⟨rfl, hk_⟩ := hR3067
 have hS3068 := hS3062.keepN hk_
 refine ⟨trivial, ?_⟩
 refine seg 3 [] [0, 1, 2, 7, 14] [(0, (.slice A_p0 p0.length c_p0)), (1, (iv p1)), (2, (iv p2)), (7, (pt g3060)), (14, (.bool (!t3064)))] [] (fun fb => by kernel_rfl) rfl trivial ?_
 refine WL.done rfl ?_
 refine WX.next ?_
 rcases br_some hf with ⟨h3069, hf⟩ | ⟨h3069, hf⟩
 ·refine WC.condT2 (fun fb => by kernel_rfl) h3069 ?_
  refine WC.seq ?_
  refine WC.region ?_
  refine seg 2 [] [8, 9] [(8, (.pointer none)), (9, (iv 1))] [] (fun fb => by kernel_rfl) rfl trivial ?_
  refine WL.done rfl ?_
  refine WX.next ?_
  refine WC.ret ?_
  injection hf with hf
  subst hf
  exact WX.thenR (WX.ret_ [] (.tuple #[(.pointer none), (iv 1)]) [] (fun fb => by kernel_rfl) trivial ⟨_, rfl, 0, none, 0, h0, rfl, hS3068.keep⟩)
 refine WC.condF2 (fun fb => by kernel_rfl) h3069 ?_
 refine WC.skip ?_
 refine WX.next ?_
 refine WC.seq ?_
 refine WC.seq ?_
 refine WC.region ?_
 refine seg 3 [] [0, 1, 2, 7, 17] [(0, (.slice A_p0 p0.length c_p0)), (1, (iv p1)), (2, (iv p2)), (7, (pt g3060)), (17, (.bool (decide (p1 < 1))))] [] (fun fb => by kernel_rfl) rfl trivial ?_
 refine WL.cutV (T := Bool) 6 (fun t => [(20, (.bool t)), (0, (.slice A_p0 p0.length c_p0)), (1, (iv p1)), (2, (iv p2)), (7, (pt g3060))]) (fun t => ((decide (p1 < 1)) || (decide (p1 > 8))) = t) (fun K => ?_) ?_
 ·
  rcases Bool.eq_false_or_eq_true (decide (p1 < 1)) with h3070 | h3070
  ·
   refine WL.setB 17 h3070 rfl ?_
   refine seg 6 [] [0, 1, 2, 7, 20] [(0, (.slice A_p0 p0.length c_p0)), (1, (iv p1)), (2, (iv p2)), (7, (pt g3060)), (20, (.bool true))] [] (fun fb => by kernel_rfl) rfl trivial ?_
   exact WL.toV K true [20, 0, 1, 2, 7] rfl (by first | (rw [h3070]; done) | (rw [h3070]; rfl))
  refine WL.setB 17 h3070 rfl ?_
  refine seg 6 [] [0, 1, 2, 7, 20] [(0, (.slice A_p0 p0.length c_p0)), (1, (iv p1)), (2, (iv p2)), (7, (pt g3060)), (20, (.bool (decide (p1 > 8))))] [] (fun fb => by kernel_rfl) rfl trivial ?_
  exact WL.toV K (decide (p1 > 8)) [20, 0, 1, 2, 7] rfl (by first | (rw [h3070]; done) | (rw [h3070]; rfl))
 rintro b3071 rfl
 refine seg 7 [] [0, 1, 2, 7, 21] [(0, (.slice A_p0 p0.length c_p0)), (1, (iv p1)), (2, (iv p2)), (7, (pt g3060)), (21, (.bool ((decide (p1 < 1)) || (decide (p1 > 8)))))] [] (fun fb => by kernel_rfl) rfl trivial ?_
 refine WL.cutV (T := Bool) 10 (fun t => [(24, (.bool t)), (0, (.slice A_p0 p0.length c_p0)), (1, (iv p1)), (2, (iv p2)), (7, (pt g3060))]) (fun t => (((decide (p1 < 1)) || (decide (p1 > 8))) || (decide (p2 < 1))) = t) (fun K => ?_) ?_
 ·
  rcases Bool.eq_false_or_eq_true ((decide (p1 < 1)) || (decide (p1 > 8))) with h3072 | h3072
  ·
   refine WL.setB 21 h3072 rfl ?_
   refine seg 10 [] [0, 1, 2, 7, 24] [(0, (.slice A_p0 p0.length c_p0)), (1, (iv p1)), (2, (iv p2)), (7, (pt g3060)), (24, (.bool true))] [] (fun fb => by kernel_rfl) rfl trivial ?_
   exact WL.toV K true [24, 0, 1, 2, 7] rfl (by first | (rw [h3072]; done) | (rw [h3072]; rfl))
  refine WL.setB 21 h3072 rfl ?_
  refine seg 10 [] [0, 1, 2, 7, 24] [(0, (.slice A_p0 p0.length c_p0)), (1, (iv p1)), (2, (iv p2)), (7, (pt g3060)), (24, (.bool (decide (p2 < 1))))] [] (fun fb => by kernel_rfl) rfl trivial ?_
  exact WL.toV K (decide (p2 < 1)) [24, 0, 1, 2, 7] rfl (by first | (rw [h3072]; done) | (rw [h3072]; rfl))
 rintro b3073 rfl
 refine seg 11 [] [0, 1, 2, 7, 25] [(0, (.slice A_p0 p0.length c_p0)), (1, (iv p1)), (2, (iv p2)), (7, (pt g3060)), (25, (.bool (((decide (p1 < 1)) || (decide (p1 > 8))) || (decide (p2 < 1)))))] [] (fun fb => by kernel_rfl) rfl trivial ?_
 refine WL.cutV (T := Bool) 14 (fun t => [(28, (.bool t)), (0, (.slice A_p0 p0.length c_p0)), (1, (iv p1)), (2, (iv p2)), (7, (pt g3060))]) (fun t => ((((decide (p1 < 1)) || (decide (p1 > 8))) || (decide (p2 < 1))) || (decide (p2 > 60))) = t) (fun K => ?_) ?_
 ·
  rcases Bool.eq_false_or_eq_true (((decide (p1 < 1)) || (decide (p1 > 8))) || (decide (p2 < 1))) with h3074 | h3074
  ·
   refine WL.setB 25 h3074 rfl ?_
   refine seg 14 [] [0, 1, 2, 7, 28] [(0, (.slice A_p0 p0.length c_p0)), (1, (iv p1)), (2, (iv p2)), (7, (pt g3060)), (28, (.bool true))] [] (fun fb => by kernel_rfl) rfl trivial ?_
   exact WL.toV K true [28, 0, 1, 2, 7] rfl (by first | (rw [h3074]; done) | (rw [h3074]; rfl))
  refine WL.setB 25 h3074 rfl ?_
  refine seg 14 [] [0, 1, 2, 7, 28] [(0, (.slice A_p0 p0.length c_p0)), (1, (iv p1)), (2, (iv p2)), (7, (pt g3060)), (28, (.bool (decide (p2 > 60))))] [] (fun fb => by kernel_rfl) rfl trivial ?_
  exact WL.toV K (decide (p2 > 60)) [28, 0, 1, 2, 7] rfl (by first | (rw [h3074]; done) | (rw [h3074]; rfl))
 rintro b3075 rfl
 refine WL.done rfl ?_
 refine WX.next ?_
 rcases br_some hf with ⟨h3076, hf⟩ | ⟨h3076, hf⟩
 ·refine WC.condT2 (fun fb => by kernel_rfl) h3076 ?_
  refine WC.seq ?_
  refine WC.region ?_
  refine seg 2 [] [8, 9] [(8, (.pointer none)), (9, (iv 2))] [] (fun fb => by kernel_rfl) rfl trivial ?_
  refine WL.done rfl ?_
  refine WX.next ?_
  refine WC.ret ?_
  injection hf with hf
  subst hf
  exact WX.thenR (WX.ret_ [] (.tuple #[(.pointer none), (iv 2)]) [] (fun fb => by kernel_rfl) trivial ⟨_, rfl, 0, none, 0, h0, rfl, hS3068.keep⟩)
 refine WC.condF2 (fun fb => by kernel_rfl) h3076 ?_
 refine WC.skip ?_
 refine WX.next ?_
 refine WC.seq ?_
 refine WC.seq ?_
 refine WC.region ?_
 refine seg 16 [.v (.slice A_p3_North p3.North.length c_p3_North), .v (.slice A_p3_South p3.South.length c_p3_South), .v (.slice A_p3_East p3.East.length c_p3_East), .v (.slice A_p3_West p3.West.length c_p3_West)] [0, 1, 2, 7, 32, 36, 40, 44] [(0, (.slice A_p0 p0.length c_p0)), (1, (iv p1)), (2, (iv p2)), (7, (pt g3060)), (32, (.agg #[(.slice A_p3_North p3.North.length c_p3_North), (iv p1)])), (36, (.agg #[(.slice A_p3_South p3.South.length c_p3_South), (iv p1)])), (40, (.agg #[(.slice A_p3_East p3.East.length c_p3_East), (iv p2)])), (44, (.agg #[(.slice A_p3_West p3.West.length c_p3_West), (iv p2)]))] [.cell ⟨g3060, 0, none⟩ (.slice A_p3_North p3.North.length c_p3_North), .cell ⟨g3060, 2, none⟩ (.slice A_p3_South p3.South.length c_p3_South), .cell ⟨g3060, 1, none⟩ (.slice A_p3_East p3.East.length c_p3_East), .cell ⟨g3060, 3, none⟩ (.slice A_p3_West p3.West.length c_p3_West)] (fun fb => by kernel_rfl) rfl ⟨hS3068.cell 0 rfl 0 rfl, hS3068.cell 0 rfl 2 rfl, hS3068.cell 0 rfl 1 rfl, hS3068.cell 0 rfl 3 rfl, trivial⟩ ?_
 refine WL.new hS3068 45 [] (fun g => (.slice (some ⟨g, 0, none⟩) 4 4)) (.cells #[(.slice A_p3_North p3.North.length c_p3_North), (iv p1), (.slice A_p3_South p3.South.length c_p3_South), (iv p1), (.slice A_p3_East p3.East.length c_p3_East), (iv p2), (.slice A_p3_West p3.West.length c_p3_West), (iv p2)] 120 (0, 0)) [] (fun fb g => by kernel_rfl) trivial (fun g3077 w3078 hS3079 => ?_)
 refine ⟨trivial, ?_⟩
 have hS3082 : St NoS w w3078 [nestO subN_S_side_n (hlN [(hd1 A_p3_North c_p3_North), (hd1 A_p3_South c_p3_South), (hd1 A_p3_East c_p3_East), (hd1 A_p3_West c_p3_West)]) [(S_side_n.mk p3.North p1), (S_side_n.mk p3.South p1), (S_side_n.mk p3.East p2), (S_side_n.mk p3.West p2)], rowR enc_Tile A_p0 c_p0 p0, rowR encInt A_p3_North c_p3_North p3.North, rowR encInt A_p3_East c_p3_East p3.East, rowR encInt A_p3_South c_p3_South p3.South, rowR encInt A_p3_West c_p3_West p3.West] [blk g3077 (.cells #[(.slice A_p3_North p3.North.length c_p3_North), (iv p1), (.slice A_p3_South p3.South.length c_p3_South), (iv p1), (.slice A_p3_East p3.East.length c_p3_East), (iv p2), (.slice A_p3_West p3.West.length c_p3_West), (iv p2)] 120 (0, 0)), blk g3060 (.cells #[(.slice A_p3_North p3.North.length c_p3_North), (.slice A_p3_East p3.East.length c_p3_East), (.slice A_p3_South p3.South.length c_p3_South), (.slice A_p3_West p3.West.length c_p3_West)] 44 (0, 0))] := hS3079.addR _ (nestO_cons (hS3079.rdL 1) (nestO_cons (hS3079.rdL 3) (nestO_cons (hS3079.rdL 2) (nestO_cons (hS3079.rdL 4) (nestO_nil _ _ _ _)))))
 have hS3081 : St NoS w w3078 [nestO subN_S_side_n (hlN [(hd1 A_p3_North c_p3_North), (hd1 A_p3_South c_p3_South), (hd1 A_p3_East c_p3_East), (hd1 A_p3_West c_p3_West)]) [(S_side_n.mk p3.North p1), (S_side_n.mk p3.South p1), (S_side_n.mk p3.East p2), (S_side_n.mk p3.West p2)], rowR enc_Tile A_p0 c_p0 p0, rowR encInt A_p3_North c_p3_North p3.North, rowR encInt A_p3_East c_p3_East p3.East, rowR encInt A_p3_South c_p3_South p3.South, rowR encInt A_p3_West c_p3_West p3.West] [rowO 120 encN_S_side_n (some ⟨g3077, 0, none⟩) 4 (tag (hlN [(hd1 A_p3_North c_p3_North), (hd1 A_p3_South c_p3_South), (hd1 A_p3_East c_p3_East), (hd1 A_p3_West c_p3_West)]) [(S_side_n.mk p3.North p1), (S_side_n.mk p3.South p1), (S_side_n.mk p3.East p2), (S_side_n.mk p3.West p2)]), blk g3060 (.cells #[(.slice A_p3_North p3.North.length c_p3_North), (.slice A_p3_East p3.East.length c_p3_East), (.slice A_p3_South p3.South.length c_p3_South), (.slice A_p3_West p3.West.length c_p3_West)] 44 (0, 0))] := hS3082.map1 0 _ (fun h => rowO.ofBlk h rfl (Nat.le_of_ble_eq_true (by kernel_rfl))) (fun _ h => by obtain ⟨_, h1, h2⟩ := h; injection h1 with h1; subst h1; exact h2) [1] (by decide) (by decide)
 refine seg 19 [] [0, 1, 2, 7, 45, 46, 47] [(0, (.slice A_p0 p0.length c_p0)), (1, (iv p1)), (2, (iv p2)), (7, (pt g3060)), (45, (.slice (some ⟨g3077, 0, none⟩) [(S_side_n.mk p3.North p1), (S_side_n.mk p3.South p1), (S_side_n.mk p3.East p2), (S_side_n.mk p3.West p2)].length 4)), (46, (iv ([(S_side_n.mk p3.North p1), (S_side_n.mk p3.South p1), (S_side_n.mk p3.East p2), (S_side_n.mk p3.West p2)].length : Int))), (47, (iv 0))] [] (fun fb => by kernel_rfl) rfl trivial ?_
 refine WL.done rfl ?_
 refine WX.next ?_
 obtain ⟨x3107, hx3108, hf⟩ := bind_some hf
 refine WC.cutN (T := Unit) (fun t => [(0, (.slice A_p0 p0.length c_p0)), (1, (iv p1)), (2, (iv p2)), (7, (pt g3060))]) (fun t w1 => St NoS w w1 [nestO subN_S_side_n (hlN [(hd1 A_p3_North c_p3_North), (hd1 A_p3_South c_p3_South), (hd1 A_p3_East c_p3_East), (hd1 A_p3_West c_p3_West)]) [(S_side_n.mk p3.North p1), (S_side_n.mk p3.South p1), (S_side_n.mk p3.East p2), (S_side_n.mk p3.West p2)], rowR enc_Tile A_p0 c_p0 p0, rowR encInt A_p3_North c_p3_North p3.North, rowR encInt A_p3_East c_p3_East p3.East, rowR encInt A_p3_South c_p3_South p3.South, rowR encInt A_p3_West c_p3_West p3.West] [blk g3060 (.cells #[(.slice A_p3_North p3.North.length c_p3_North), (.slice A_p3_East p3.East.length c_p3_East), (.slice A_p3_South p3.South.length c_p3_South), (.slice A_p3_West p3.West.length c_p3_West)] 44 (0, 0))] ∧ x3107 = .inr t) (fun Kx3107 => ?_) ?_
 ·
  refine WC.block ?_
  refine WC.loop (T := Int) (fun t => [(0, (.slice A_p0 p0.length c_p0)), (1, (iv p1)), (2, (iv p2)), (7, (pt g3060)), (45, (.slice (some ⟨g3077, 0, none⟩) [(S_side_n.mk p3.North p1), (S_side_n.mk p3.South p1), (S_side_n.mk p3.East p2), (S_side_n.mk p3.West p2)].length 4)), (46, (iv ([(S_side_n.mk p3.North p1), (S_side_n.mk p3.South p1), (S_side_n.mk p3.East p2), (S_side_n.mk p3.West p2)].length : Int))), (47, (iv t))]) (fun n t w1 => St NoS w w1 [nestO subN_S_side_n (hlN [(hd1 A_p3_North c_p3_North), (hd1 A_p3_South c_p3_South), (hd1 A_p3_East c_p3_East), (hd1 A_p3_West c_p3_West)]) [(S_side_n.mk p3.North p1), (S_side_n.mk p3.South p1), (S_side_n.mk p3.East p2), (S_side_n.mk p3.West p2)], rowR enc_Tile A_p0 c_p0 p0, rowR encInt A_p3_North c_p3_North p3.North, rowR encInt A_p3_East c_p3_East p3.East, rowR encInt A_p3_South c_p3_South p3.South, rowR encInt A_p3_West c_p3_West p3.West] [blk g3060 (.cells #[(.slice A_p3_North p3.North.length c_p3_North), (.slice A_p3_East p3.East.length c_p3_East), (.slice A_p3_South p3.South.length c_p3_South), (.slice A_p3_West p3.West.length c_p3_West)] 44 (0, 0)), rowO 120 encN_S_side_n (some ⟨g3077, 0, none⟩) 4 (tag (hlN [(hd1 A_p3_North c_p3_North), (hd1 A_p3_South c_p3_South), (hd1 A_p3_East c_p3_East), (hd1 A_p3_West c_p3_West)]) [(S_side_n.mk p3.North p1), (S_side_n.mk p3.South p1), (S_side_n.mk p3.East p2), (S_side_n.mk p3.West p2)])] ∧ fill_begin.l0 n t p1 p2 p3 = some x3107) k 0 [0, 1, 2, 7, 45, 46, 47] rfl ⟨(hS3081.subR [0, 1, 2, 3, 4, 5]).sub [1, 0] (by decide), hx3108⟩ ?_
  rintro k3109 x3106 w3110 ⟨hS3111, hl3112⟩
  cases k3109 with
  | zero => rw [fill_begin.l0] at hl3112; cases hl3112
  | succ k3109 =>
   rw [fill_begin.l0] at hl3112
   refine WC.seq ?_
   refine WC.region ?_
   refine seg 1 [] [0, 1, 2, 7, 45, 46, 47, 48] [(0, (.slice A_p0 p0.length c_p0)), (1, (iv p1)), (2, (iv p2)), (7, (pt g3060)), (45, (.slice (some ⟨g3077, 0, none⟩) [(S_side_n.mk p3.North p1), (S_side_n.mk p3.South p1), (S_side_n.mk p3.East p2), (S_side_n.mk p3.West p2)].length 4)), (46, (iv ([(S_side_n.mk p3.North p1), (S_side_n.mk p3.South p1), (S_side_n.mk p3.East p2), (S_side_n.mk p3.West p2)].length : Int))), (47, (iv x3106)), (48, (.bool (decide (x3106 < ([(S_side_n.mk p3.North p1), (S_side_n.mk p3.South p1), (S_side_n.mk p3.East p2), (S_side_n.mk p3.West p2)].length : Int)))))] [] (fun fb => by kernel_rfl) rfl trivial ?_
   refine WL.done rfl ?_
   refine WX.next ?_
   refine WC.seq ?_
   rcases br_some hl3112 with ⟨h3113, hl3112⟩ | ⟨h3113, hl3112⟩
   ·refine WC.condT2 (fun fb => by kernel_rfl) h3113 ?_
    refine WC.skip ?_
    refine WX.next ?_
    refine WC.seq ?_
    refine WC.block ?_
    refine WC.seq ?_
    refine WC.region ?_
    obtain ⟨h3114, hl3112⟩ := as_some hl3112
    refine seg 2 [.v (.slice (((hlN [(hd1 A_p3_North c_p3_North), (hd1 A_p3_South c_p3_South), (hd1 A_p3_East c_p3_East), (hd1 A_p3_West c_p3_West)]) x3106.toNat 0).1) ((rdD [(S_side_n.mk p3.North p1), (S_side_n.mk p3.South p1), (S_side_n.mk p3.East p2), (S_side_n.mk p3.West p2)] x3106 z_S_side_n).side).length (((hlN [(hd1 A_p3_North c_p3_North), (hd1 A_p3_South c_p3_South), (hd1 A_p3_East c_p3_East), (hd1 A_p3_West c_p3_West)]) x3106.toNat 0).2)), .v (iv ((rdD [(S_side_n.mk p3.North p1), (S_side_n.mk p3.South p1), (S_side_n.mk p3.East p2), (S_side_n.mk p3.West p2)] x3106 z_S_side_n).n))] [0, 1, 2, 7, 45, 46, 47, 50] [(0, (.slice A_p0 p0.length c_p0)), (1, (iv p1)), (2, (iv p2)), (7, (pt g3060)), (45, (.slice (some ⟨g3077, 0, none⟩) [(S_side_n.mk p3.North p1), (S_side_n.mk p3.South p1), (S_side_n.mk p3.East p2), (S_side_n.mk p3.West p2)].length 4)), (46, (iv ([(S_side_n.mk p3.North p1), (S_side_n.mk p3.South p1), (S_side_n.mk p3.East p2), (S_side_n.mk p3.West p2)].length : Int))), (47, (iv x3106)), (50, (.agg #[(.slice (((hlN [(hd1 A_p3_North c_p3_North), (hd1 A_p3_South c_p3_South), (hd1 A_p3_East c_p3_East), (hd1 A_p3_West c_p3_West)]) x3106.toNat 0).1) ((rdD [(S_side_n.mk p3.North p1), (S_side_n.mk p3.South p1), (S_side_n.mk p3.East p2), (S_side_n.mk p3.West p2)] x3106 z_S_side_n).side).length (((hlN [(hd1 A_p3_North c_p3_North), (hd1 A_p3_South c_p3_South), (hd1 A_p3_East c_p3_East), (hd1 A_p3_West c_p3_West)]) x3106.toNat 0).2)), (iv ((rdD [(S_side_n.mk p3.North p1), (S_side_n.mk p3.South p1), (S_side_n.mk p3.East p2), (S_side_n.mk p3.West p2)] x3106 z_S_side_n).n))]))] [.idx (some ⟨g3077, 0, none⟩) x3106 [(S_side_n.mk p3.North p1), (S_side_n.mk p3.South p1), (S_side_n.mk p3.East p2), (S_side_n.mk p3.West p2)].length, .cell ((adr (some ⟨g3077, 0, none⟩)).add ((x3106).toNat * 2)) (.slice (((hlN [(hd1 A_p3_North c_p3_North), (hd1 A_p3_South c_p3_South), (hd1 A_p3_East c_p3_East), (hd1 A_p3_West c_p3_West)]) x3106.toNat 0).1) ((rdD [(S_side_n.mk p3.North p1), (S_side_n.mk p3.South p1), (S_side_n.mk p3.East p2), (S_side_n.mk p3.West p2)] x3106 z_S_side_n).side).length (((hlN [(hd1 A_p3_North c_p3_North), (hd1 A_p3_South c_p3_South), (hd1 A_p3_East c_p3_East), (hd1 A_p3_West c_p3_West)]) x3106.toNat 0).2)), .cell (((adr (some ⟨g3077, 0, none⟩)).add ((x3106).toNat * 2)).add 1) (iv ((rdD [(S_side_n.mk p3.North p1), (S_side_n.mk p3.South p1), (S_side_n.mk p3.East p2), (S_side_n.mk p3.West p2)] x3106 z_S_side_n).n))] (fun fb => by kernel_rfl) rfl ⟨nrow_adr (rowO.rd (hS3111.own 1).1) h3114.1 h3114.2, nrow_cell (rowO.rd (hS3111.own 1).1) z_S_side_n h3114.1 h3114.2 0 rfl, nrow_cell (rowO.rd (hS3111.own 1).1) z_S_side_n h3114.1 h3114.2 1 rfl, trivial⟩ ?_
    refine WL.new hS3111 11 [] (fun g => (.pointer (some ⟨g, 0, none⟩))) (.cells #[(.slice none 0 0), (iv 0)] 120 (0, 0)) [] (fun fb g => by kernel_rfl) trivial (fun g3115 w3116 hS3117 => ?_)
    refine ⟨trivial, ?_⟩
    refine WL.store hS3117 0 rfl [(0, (.slice (((hlN [(hd1 A_p3_North c_p3_North), (hd1 A_p3_South c_p3_South), (hd1 A_p3_East c_p3_East), (hd1 A_p3_West c_p3_West)]) x3106.toNat 0).1) ((rdD [(S_side_n.mk p3.North p1), (S_side_n.mk p3.South p1), (S_side_n.mk p3.East p2), (S_side_n.mk p3.West p2)] x3106 z_S_side_n).side).length (((hlN [(hd1 A_p3_North c_p3_North), (hd1 A_p3_South c_p3_South), (hd1 A_p3_East c_p3_East), (hd1 A_p3_West c_p3_West)]) x3106.toNat 0).2))), (1, (iv ((rdD [(S_side_n.mk p3.North p1), (S_side_n.mk p3.South p1), (S_side_n.mk p3.East p2), (S_side_n.mk p3.West p2)] x3106 z_S_side_n).n)))] #[(.slice (((hlN [(hd1 A_p3_North c_p3_North), (hd1 A_p3_South c_p3_South), (hd1 A_p3_East c_p3_East), (hd1 A_p3_West c_p3_West)]) x3106.toNat 0).1) ((rdD [(S_side_n.mk p3.North p1), (S_side_n.mk p3.South p1), (S_side_n.mk p3.East p2), (S_side_n.mk p3.West p2)] x3106 z_S_side_n).side).length (((hlN [(hd1 A_p3_North c_p3_North), (hd1 A_p3_South c_p3_South), (hd1 A_p3_East c_p3_East), (hd1 A_p3_West c_p3_West)]) x3106.toNat 0).2)), (iv ((rdD [(S_side_n.mk p3.North p1), (S_side_n.mk p3.South p1), (S_side_n.mk p3.East p2), (S_side_n.mk p3.West p2)] x3106 z_S_side_n).n))] (fun fb => by kernel_rfl) (by kernel_rfl) rfl [1, 2] (by decide) (by decide) (fun w3119 hS3120 => ?_)
    refine ⟨trivial, ?_⟩
    refine WL.done rfl ?_
    refine WX.next ?_
    refine WC.seq ?_
    refine WC.region ?_
    refine seg 5 [.v (.slice (((hlN [(hd1 A_p3_North c_p3_North), (hd1 A_p3_South c_p3_South), (hd1 A_p3_East c_p3_East), (hd1 A_p3_West c_p3_West)]) x3106.toNat 0).1) ((rdD [(S_side_n.mk p3.North p1), (S_side_n.mk p3.South p1), (S_side_n.mk p3.East p2), (S_side_n.mk p3.West p2)] x3106 z_S_side_n).side).length (((hlN [(hd1 A_p3_North c_p3_North), (hd1 A_p3_South c_p3_South), (hd1 A_p3_East c_p3_East), (hd1 A_p3_West c_p3_West)]) x3106.toNat 0).2))] [0, 1, 2, 7, 11, 45, 46, 47, 55] [(0, (.slice A_p0 p0.length c_p0)), (1, (iv p1)), (2, (iv p2)), (7, (pt g3060)), (11, (pt g3115)), (45, (.slice (some ⟨g3077, 0, none⟩) [(S_side_n.mk p3.North p1), (S_side_n.mk p3.South p1), (S_side_n.mk p3.East p2), (S_side_n.mk p3.West p2)].length 4)), (46, (iv ([(S_side_n.mk p3.North p1), (S_side_n.mk p3.South p1), (S_side_n.mk p3.East p2), (S_side_n.mk p3.West p2)].length : Int))), (47, (iv x3106)), (55, (.bool ((((rdD [(S_side_n.mk p3.North p1), (S_side_n.mk p3.South p1), (S_side_n.mk p3.East p2), (S_side_n.mk p3.West p2)] x3106 z_S_side_n).side).length : Int) != 0)))] [.cell ⟨g3115, 0, none⟩ (.slice (((hlN [(hd1 A_p3_North c_p3_North), (hd1 A_p3_South c_p3_South), (hd1 A_p3_East c_p3_East), (hd1 A_p3_West c_p3_West)]) x3106.toNat 0).1) ((rdD [(S_side_n.mk p3.North p1), (S_side_n.mk p3.South p1), (S_side_n.mk p3.East p2), (S_side_n.mk p3.West p2)] x3106 z_S_side_n).side).length (((hlN [(hd1 A_p3_North c_p3_North), (hd1 A_p3_South c_p3_South), (hd1 A_p3_East c_p3_East), (hd1 A_p3_West c_p3_West)]) x3106.toNat 0).2))] (fun fb => by kernel_rfl) rfl ⟨hS3120.cell 0 rfl 0 rfl, trivial⟩ ?_
    refine WL.cutV (T := Bool) 12 (fun t => [(62, (.bool t)), (0, (.slice A_p0 p0.length c_p0)), (1, (iv p1)), (2, (iv p2)), (7, (pt g3060)), (45, (.slice (some ⟨g3077, 0, none⟩) [(S_side_n.mk p3.North p1), (S_side_n.mk p3.South p1), (S_side_n.mk p3.East p2), (S_side_n.mk p3.West p2)].length 4)), (46, (iv ([(S_side_n.mk p3.North p1), (S_side_n.mk p3.South p1), (S_side_n.mk p3.East p2), (S_side_n.mk p3.West p2)].length : Int))), (47, (iv x3106))]) (fun t => (((((rdD [(S_side_n.mk p3.North p1), (S_side_n.mk p3.South p1), (S_side_n.mk p3.East p2), (S_side_n.mk p3.West p2)] x3106 z_S_side_n).side).length : Int) != 0) && ((((rdD [(S_side_n.mk p3.North p1), (S_side_n.mk p3.South p1), (S_side_n.mk p3.East p2), (S_side_n.mk p3.West p2)] x3106 z_S_side_n).side).length : Int) != ((rdD [(S_side_n.mk p3.North p1), (S_side_n.mk p3.South p1), (S_side_n.mk p3.East p2), (S_side_n.mk p3.West p2)] x3106 z_S_side_n).n))) = t) (fun K => ?_) ?_
    ·
     rcases Bool.eq_false_or_eq_true ((((rdD [(S_side_n.mk p3.North p1), (S_side_n.mk p3.South p1), (S_side_n.mk p3.East p2), (S_side_n.mk p3.West p2)] x3106 z_S_side_n).side).length : Int) != 0) with h3121 | h3121
     ·
      refine WL.setB 55 h3121 rfl ?_
      refine seg 12 [.v (.slice (((hlN [(hd1 A_p3_North c_p3_North), (hd1 A_p3_South c_p3_South), (hd1 A_p3_East c_p3_East), (hd1 A_p3_West c_p3_West)]) x3106.toNat 0).1) ((rdD [(S_side_n.mk p3.North p1), (S_side_n.mk p3.South p1), (S_side_n.mk p3.East p2), (S_side_n.mk p3.West p2)] x3106 z_S_side_n).side).length (((hlN [(hd1 A_p3_North c_p3_North), (hd1 A_p3_South c_p3_South), (hd1 A_p3_East c_p3_East), (hd1 A_p3_West c_p3_West)]) x3106.toNat 0).2)), .v (iv ((rdD [(S_side_n.mk p3.North p1), (S_side_n.mk p3.South p1), (S_side_n.mk p3.East p2), (S_side_n.mk p3.West p2)] x3106 z_S_side_n).n))] [0, 1, 2, 7, 45, 46, 47, 62] [(0, (.slice A_p0 p0.length c_p0)), (1, (iv p1)), (2, (iv p2)), (7, (pt g3060)), (45, (.slice (some ⟨g3077, 0, none⟩) [(S_side_n.mk p3.North p1), (S_side_n.mk p3.South p1), (S_side_n.mk p3.East p2), (S_side_n.mk p3.West p2)].length 4)), (46, (iv ([(S_side_n.mk p3.North p1), (S_side_n.mk p3.South p1), (S_side_n.mk p3.East p2), (S_side_n.mk p3.West p2)].length : Int))), (47, (iv x3106)), (62, (.bool ((((rdD [(S_side_n.mk p3.North p1), (S_side_n.mk p3.South p1), (S_side_n.mk p3.East p2), (S_side_n.mk p3.West p2)] x3106 z_S_side_n).side).length : Int) != ((rdD [(S_side_n.mk p3.North p1), (S_side_n.mk p3.South p1), (S_side_n.mk p3.East p2), (S_side_n.mk p3.West p2)] x3106 z_S_side_n).n))))] [.cell ⟨g3115, 0, none⟩ (.slice (((hlN [(hd1 A_p3_North c_p3_North), (hd1 A_p3_South c_p3_South), (hd1 A_p3_East c_p3_East), (hd1 A_p3_West c_p3_West)]) x3106.toNat 0).1) ((rdD [(S_side_n.mk p3.North p1), (S_side_n.mk p3.South p1), (S_side_n.mk p3.East p2), (S_side_n.mk p3.West p2)] x3106 z_S_side_n).side).length (((hlN [(hd1 A_p3_North c_p3_North), (hd1 A_p3_South c_p3_South), (hd1 A_p3_East c_p3_East), (hd1 A_p3_West c_p3_West)]) x3106.toNat 0).2)), .cell ⟨g3115, 1, none⟩ (iv ((rdD [(S_side_n.mk p3.North p1), (S_side_n.mk p3.South p1), (S_side_n.mk p3.East p2), (S_side_n.mk p3.West p2)] x3106 z_S_side_n).n))] (fun fb => by kernel_rfl) rfl ⟨hS3120.cell 0 rfl 0 rfl, hS3120.cell 0 rfl 1 rfl, trivial⟩ ?_
      exact WL.toV K ((((rdD [(S_side_n.mk p3.North p1), (S_side_n.mk p3.South p1), (S_side_n.mk p3.East p2), (S_side_n.mk p3.West p2)] x3106 z_S_side_n).side).length : Int) != ((rdD [(S_side_n.mk p3.North p1), (S_side_n.mk p3.South p1), (S_side_n.mk p3.East p2), (S_side_n.mk p3.West p2)] x3106 z_S_side_n).n)) [62, 0, 1, 2, 7, 45, 46, 47] rfl (by first | (rw [h3121]; done) | (rw [h3121]; rfl))
     refine WL.setB 55 h3121 rfl ?_
     refine seg 12 [] [0, 1, 2, 7, 45, 46, 47, 62] [(0, (.slice A_p0 p0.length c_p0)), (1, (iv p1)), (2, (iv p2)), (7, (pt g3060)), (45, (.slice (some ⟨g3077, 0, none⟩) [(S_side_n.mk p3.North p1), (S_side_n.mk p3.South p1), (S_side_n.mk p3.East p2), (S_side_n.mk p3.West p2)].length 4)), (46, (iv ([(S_side_n.mk p3.North p1), (S_side_n.mk p3.South p1), (S_side_n.mk p3.East p2), (S_side_n.mk p3.West p2)].length : Int))), (47, (iv x3106)), (62, (.bool false))] [] (fun fb => by kernel_rfl) rfl trivial ?_
     exact WL.toV K false [62, 0, 1, 2, 7, 45, 46, 47] rfl (by first | (rw [h3121]; done) | (rw [h3121]; rfl))
    rintro b3122 rfl
    refine WL.done rfl ?_
    refine WX.next ?_
    rcases br_some hl3112 with ⟨h3123, hl3112⟩ | ⟨h3123, hl3112⟩
    ·refine WC.condT2 (fun fb => by kernel_rfl) h3123 ?_
     refine WC.seq ?_
     refine WC.region ?_
     refine seg 2 [] [8, 9] [(8, (.pointer none)), (9, (iv 2))] [] (fun fb => by kernel_rfl) rfl trivial ?_
     refine WL.done rfl ?_
     refine WX.next ?_
     refine WC.ret ?_
     injection hl3112 with hl3112
     subst hl3112
     injection hf with hf
     subst hf
     exact WX.blockR (WX.thenR (WX.thenR (WX.blockR (WX.thenR (WX.ret_ [] (.tuple #[(.pointer none), (iv 2)]) [] (fun fb => by kernel_rfl) trivial ⟨_, rfl, 0, none, 0, h0, rfl, hS3120.keep⟩)))))
    refine WC.condF2 (fun fb => by kernel_rfl) h3123 ?_
    refine WC.skip ?_
    refine WX.blockN (WX.next ?_)
    refine WC.region ?_
    refine seg 2 [] [0, 1, 2, 7, 45, 46, 47] [(0, (.slice A_p0 p0.length c_p0)), (1, (iv p1)), (2, (iv p2)), (7, (pt g3060)), (45, (.slice (some ⟨g3077, 0, none⟩) [(S_side_n.mk p3.North p1), (S_side_n.mk p3.South p1), (S_side_n.mk p3.East p2), (S_side_n.mk p3.West p2)].length 4)), (46, (iv ([(S_side_n.mk p3.North p1), (S_side_n.mk p3.South p1), (S_side_n.mk p3.East p2), (S_side_n.mk p3.West p2)].length : Int))), (47, (iv (w64 (x3106 + 1))))] [] (fun fb => by kernel_rfl) rfl trivial ?_
    refine WL.done rfl ?_
    exact WX.again k3109 (Nat.lt_succ_self _) (w64 (x3106 + 1)) [0, 1, 2, 7, 45, 46, 47] rfl ⟨(hS3120.subR [0, 1, 2, 3, 4, 5]).sub [1, 2] (by decide), hl3112⟩
   refine WC.condF2 (fun fb => by kernel_rfl) h3113 ?_
   refine WC.exit ?_
   injection hl3112 with hl3112
   exact WX.thenX (WX.thenX (WX.blockHere (WX.to Kx3107 () [0, 1, 2, 7] rfl ⟨(hS3111.subR [0, 1, 2, 3, 4, 5]).sub [0] (by decide), hl3112.symm⟩)))
 rintro y3127 w3124 ⟨hS3125, hq3126⟩
 subst hq3126
 have hf := sum_inr hf
 refine WX.next ?_
 refine WC.seq ?_
 refine WC.seq ?_
 refine WC.region ?_
 refine seg 2 [] [0, 1, 2, 7, 64, 65] [(0, (.slice A_p0 p0.length c_p0)), (1, (iv p1)), (2, (iv p2)), (7, (pt g3060)), (64, (.slice A_p0 p0.length c_p0)), (65, (iv p1))] [] (fun fb => by kernel_rfl) rfl trivial ?_
 obtain ⟨t3129, ht3130, hf⟩ := bind_some hf
 refine WL.call (some 66) 53 #[(.slice A_p0 p0.length c_p0), (iv p1)] (fun fb => by kernel_rfl) (rows_Few_calls _ p0 p1 A_p0 c_p0 t3129 _ (hS3125.rd 1) ht3130) (fun v w3131 hR3132 => ?_)
 obtain ⟨rfl, hk_⟩ := hR3132
 have hS3133 := hS3125.keepN hk_
 refine ⟨trivial, ?_⟩
 refine seg 4 [] [0, 1, 2, 7, 67] [(0, (.slice A_p0 p0.length c_p0)), (1, (iv p1)), (2, (iv p2)), (7, (pt g3060)), (67, (.bool (!t3129)))] [] (fun fb => by kernel_rfl) rfl trivial ?_
 refine WL.done rfl ?_
 refine WX.next ?_
 rcases br_some hf with ⟨h3134, hf⟩ | ⟨h3134, hf⟩
 ·refine WC.condT2 (fun fb => by kernel_rfl) h3134 ?_
  refine WC.seq ?_
  refine WC.region ?_
  refine seg 2 [] [8, 9] [(8, (.pointer none)), (9, (iv 4))] [] (fun fb => by kernel_rfl) rfl trivial ?_
  refine WL.done rfl ?_
  refine WX.next ?_
  refine WC.ret ?_
  injection hf with hf
  subst hf
  exact WX.thenR (WX.ret_ [] (.tuple #[(.pointer none), (iv 4)]) [] (fun fb => by kernel_rfl) trivial ⟨_, rfl, 0, none, 0, h0, rfl, hS3133.keep⟩)
 refine WC.condF2 (fun fb => by kernel_rfl) h3134 ?_
 refine WC.skip ?_
 refine WX.next ?_
 refine WC.seq ?_
 refine WC.regionD ([(5, ⟨g3060, 0, none⟩, (.slice A_p3_North p3.North.length c_p3_North)), (5, ⟨g3060, 1, none⟩, (.slice A_p3_East p3.East.length c_p3_East)), (5, ⟨g3060, 2, none⟩, (.slice A_p3_South p3.South.length c_p3_South)), (5, ⟨g3060, 3, none⟩, (.slice A_p3_West p3.West.length c_p3_West))], [0, 1, 3, 4, 5, 6, 8, 9], [[], [], [0, 1], [], [], [], [0, 1, 2, 3, 4, 5], [0, 1, 2, 3, 4, 5, 6], [0, 1, 2, 3, 4, 5, 6, 7], [0, 1, 2, 3, 4, 5, 6, 7, 8]]) [[0, 1, 3, 4, 5, 2, 6, 7, 8, 9]] (by kernel_rfl) (by kernel_rfl) (NoPanic.seq (NoPanic.body)) ?_
 have hS3148 := hS3133.drew
 revert hS3148
 generalize World.drew w3131 = w3147
 intro hS3148
 refine ⟨⟨hS3148.cell 0 rfl 0 rfl, hS3148.cell 0 rfl 1 rfl, hS3148.cell 0 rfl 2 rfl, hS3148.cell 0 rfl 3 rfl, trivial⟩, forallC ?_ (forallN)⟩
 refine segF 5 [.v (.slice A_p3_North p3.North.length c_p3_North), .v (.slice A_p3_East p3.East.length c_p3_East), .v (.slice A_p3_South p3.South.length c_p3_South), .v (.slice A_p3_West p3.West.length c_p3_West)] [68, 69, 71, 72, 73] [(68, (.slice A_p0 p0.length c_p0)), (69, (iv p1)), (71, (iv p1)), (72, (iv p2)), (73, (.agg #[(.slice A_p3_North p3.North.length c_p3_North), (.slice A_p3_East p3.East.length c_p3_East), (.slice A_p3_South p3.South.length c_p3_South), (.slice A_p3_West p3.West.length c_p3_West)]))] [] [0, 1, 2, 3] [(5, ⟨g3060, 0, none⟩, (.slice A_p3_North p3.North.length c_p3_North)), (5, ⟨g3060, 1, none⟩, (.slice A_p3_East p3.East.length c_p3_East)), (5, ⟨g3060, 2, none⟩, (.slice A_p3_South p3.South.length c_p3_South)), (5, ⟨g3060, 3, none⟩, (.slice A_p3_West p3.West.length c_p3_West))] (fun fb => by kernel_rfl) rfl trivial rfl ?_
 obtain ⟨t3149, ht3150, hf⟩ := bind_some hf
 refine WL.call (some 70) 83 #[(.slice A_p0 p0.length c_p0), (iv p1)] (fun fb => by kernel_rfl) (rows_All_calls _ p0 p1 A_p0 c_p0 t3149 _ (hS3148.rd 1) ht3150) (fun v w3151 hR3152 => ?_)
 obtain ⟨A3154, c3155, H3156, rfl, hk_⟩ := hR3152
 have hS3153 : St NoS w w3151 [nestO subN_S_side_n (hlN [(hd1 A_p3_North c_p3_North), (hd1 A_p3_South c_p3_South), (hd1 A_p3_East c_p3_East), (hd1 A_p3_West c_p3_West)]) [(S_side_n.mk p3.North p1), (S_side_n.mk p3.South p1), (S_side_n.mk p3.East p2), (S_side_n.mk p3.West p2)], rowR enc_Tile A_p0 c_p0 p0, rowR encInt A_p3_North c_p3_North p3.North, rowR encInt A_p3_East c_p3_East p3.East, rowR encInt A_p3_South c_p3_South p3.South, rowR encInt A_p3_West c_p3_West p3.West] [rowO 85 encN_Row A3154 c3155 (tag H3156 t3149), poolO [nestO subN_Row H3156 t3149], blk g3060 (.cells #[(.slice A_p3_North p3.North.length c_p3_North), (.slice A_p3_East p3.East.length c_p3_East), (.slice A_p3_South p3.South.length c_p3_South), (.slice A_p3_West p3.West.length c_p3_West)] 44 (0, 0))] := hS3148.call hk_ [] [0] (fun g hg => hg.elim) (by simp) (by decide)
 refine ⟨⟨hS3153.cell 2 rfl 0 rfl, hS3153.cell 2 rfl 1 rfl, hS3153.cell 2 rfl 2 rfl, hS3153.cell 2 rfl 3 rfl, trivial⟩, ?_⟩
 refine seg 7 [] [74] [(74, (.agg #[(.slice A3154 t3149.length c3155), (iv p1), (iv p2), (.slice A_p3_North p3.North.length c_p3_North), (.slice A_p3_East p3.East.length c_p3_East), (.slice A_p3_South p3.South.length c_p3_South), (.slice A_p3_West p3.West.length c_p3_West)]))] [] (fun fb => by kernel_rfl) rfl trivial ?_
 refine WL.new hS3153 75 [] (fun g => (.pointer (some ⟨g, 0, none⟩))) (.cells #[(.slice A3154 t3149.length c3155), (iv p1), (iv p2), (.slice A_p3_North p3.North.length c_p3_North), (.slice A_p3_East p3.East.length c_p3_East), (.slice A_p3_South p3.South.length c_p3_South), (.slice A_p3_West p3.West.length c_p3_West)] 81 (0, 0)) [] (fun fb g => by kernel_rfl) trivial (fun g3157 w3158 hS3159 => ?_)
 refine ⟨trivial, ?_⟩
 refine seg 10 [] [8, 9] [(8, (pt g3157)), (9, (iv 0))] [] (fun fb => by kernel_rfl) rfl trivial ?_
 refine WL.done rfl ?_
 refine WX.next ?_
 refine WC.ret ?_
 injection hf with hf
 subst hf
 exact WX.ret_ [] (.tuple #[(pt g3157), (iv 0)]) [] (fun fb => by kernel_rfl) trivial ⟨_, rfl, g3157, A3154, c3155, H3156, rfl, (hS3159.sub [0, 1, 2] (by decide)).noR⟩
theorem fill_at_calls (p0 : List Int) (p1 : Int) (p2 : Int) (A_p0 : Option Addr) (c_p0 : Nat) (r : Bool) (w : World) (hR0 : RO NoS w (rowR encInt A_p0 c_p0 p0)) (hf : fill_at p0 p1 p2 = some r) :
  CallsR Tryd.prog 84 #[(.slice A_p0 p0.length c_p0), (iv p1), (iv p2)] w (fun v w' => v = (.bool r) ∧ Keeps NoS w w') := by
 have hS : St NoS w w [rowR encInt A_p0 c_p0 p0] [] := St.init (ro_cons hR0 (ro_nil _ _))
 refine enter 18 Tryd.func84 rfl Tryd.ntmps84 rfl ?_
 unfold fill_at at hf
 refine WC.seq ?_
 refine WC.region ?_
 refine seg 1 [] [0, 1, 2] [(0, (.slice A_p0 p0.length c_p0)), (1, (iv p1)), (2, (iv p2))] [] (fun fb => by kernel_rfl) rfl trivial ?_
 refine WL.done rfl ?_
 refine WX.next ?_
 refine WC.seq ?_
 refine WC.region ?_
 refine seg 4 [] [0, 1, 2, 10] [(0, (.slice A_p0 p0.length c_p0)), (1, (iv p1)), (2, (iv p2)), (10, (.bool ((p0.length : Int) == 0)))] [] (fun fb => by kernel_rfl) rfl trivial ?_
 obtain ⟨b3263, hv3264, hf⟩ := bind_some hf
 refine WL.cutV (T := Unit) 11 (fun t => [(17, (.bool b3263))]) (fun t => True) (fun K => ?_) ?_
 ·
  rcases br_some hv3264 with ⟨h3265, hv3264⟩ | ⟨h3265, hv3264⟩
  ·
   refine WL.setB 10 h3265 rfl ?_
   refine seg 11 [] [17] [(17, (.bool true))] [] (fun fb => by kernel_rfl) rfl trivial ?_
   injection hv3264 with hv3264
   subst hv3264
   exact WL.toV K () [17] rfl trivial
  refine WL.setB 10 h3265 rfl ?_
  refine seg 6 [] [2, 10, 11, 12] [(2, (iv p2)), (10, (.bool false)), (11, (.slice A_p0 p0.length c_p0)), (12, (iv p1))] [] (fun fb => by kernel_rfl) rfl trivial ?_
  obtain ⟨h3266, hv3264⟩ := as_some hv3264
  refine seg 11 [.v (iv (rdD p0 p1 0))] [17] [(17, (.bool ((rdD p0 p1 0) == p2)))] [.idx A_p0 p1 p0.length, .cell ((adr A_p0).add ((p1).toNat * 1)) (iv (rdD p0 p1 0))] (fun fb => by kernel_rfl) rfl ⟨rowR.adr (hS.rd 0).1 h3266.1 h3266.2, rowR.cell (hS.rd 0).1 0 h3266.1 h3266.2 0 rfl, trivial⟩ ?_
  injection hv3264 with hv3264
  subst hv3264
  exact WL.toV K () [17] rfl trivial
 rintro _ _
 refine seg 12 [] [6] [(6, (.bool b3263))] [] (fun fb => by kernel_rfl) rfl trivial ?_
 refine WL.done rfl ?_
 refine WX.next ?_
 refine WC.ret ?_
 injection hf with hf
 subst hf
 exact WX.ret_ [] (.bool b3263) [] (fun fb => by kernel_rfl) trivial ⟨_, rfl, rfl, hS.keep⟩
theorem fill_job_allows_calls (k : Nat) (p0 : Job) (p1 : Row) (p2 : Int) (g_p0 : Nat) (A_p0_rows : Option Addr) (c_p0_rows : Nat) (H_p0_rows : Nat → HF) (A_p0_edges_North : Option Addr) (c_p0_edges_North : Nat) (A_p0_edges_East : Option Addr) (c_p0_edges_East : Nat) (A_p0_edges_South : Option Addr) (c_p0_edges_South : Nat) (A_p0_edges_West : Option Addr) (c_p0_edges_West : Nat) (A_p1_Cells : Option Addr) (c_p1_Cells : Nat) (r : Bool) (w : World) (hR0 : RO NoS w (blk g_p0 (.cells #[(.slice A_p0_rows p0.rows.length c_p0_rows), (iv p0.width), (iv p0.height), (.slice A_p0_edges_North p0.edges.North.length c_p0_edges_North), (.slice A_p0_edges_East p0.edges.East.length c_p0_edges_East), (.slice A_p0_edges_South p0.edges.South.length c_p0_edges_South), (.slice A_p0_edges_West p0.edges.West.length c_p0_edges_West)] 81 (0, 0)))) (hR1 : RO NoS w (rowR encN_Row A_p0_rows c_p0_rows (tag H_p0_rows p0.rows))) (hR2 : RO NoS w (nestO subN_Row H_p0_rows p0.rows)) (hR3 : RO NoS w (rowR encInt A_p0_edges_North c_p0_edges_North p0.edges.North)) (hR4 : RO NoS w (rowR encInt A_p0_edges_East c_p0_edges_East p0.edges.East)) (hR5 : RO NoS w (rowR encInt A_p0_edges_South c_p0_edges_South p0.edges.South)) (hR6 : RO NoS w (rowR encInt A_p0_edges_West c_p0_edges_West p0.edges.West)) (hR7 : RO NoS w (rowR encInt A_p1_Cells c_p1_Cells p1.Cells)) (hf : fill_job_allows k p0 p1 p2 = some r) :
  CallsR Tryd.prog 60 #[(.pointer (some ⟨g_p0, 0, none⟩)), (.agg #[(.slice A_p1_Cells p1.Cells.length c_p1_Cells), (iv p1.South.e0), (iv p1.South.e1), (iv p1.South.e2), (iv p1.South.e3), (iv p1.South.e4), (iv p1.South.e5), (iv p1.South.e6), (iv p1.South.e7), (iv p1.North.e0), (iv p1.North.e1), (iv p1.North.e2), (iv p1.North.e3), (iv p1.North.e4), (iv p1.North.e5), (iv p1.North.e6), (iv p1.North.e7), (iv p1.West), (iv p1.East)]), (iv p2)] w (fun v w' => v = (.bool r) ∧ Keeps NoS w w') := by
 have hS : St NoS w w [blk g_p0 (.cells #[(.slice A_p0_rows p0.rows.length c_p0_rows), (iv p0.width), (iv p0.height), (.slice A_p0_edges_North p0.edges.North.length c_p0_edges_North), (.slice A_p0_edges_East p0.edges.East.length c_p0_edges_East), (.slice A_p0_edges_South p0.edges.South.length c_p0_edges_South), (.slice A_p0_edges_West p0.edges.West.length c_p0_edges_West)] 81 (0, 0)), rowR encN_Row A_p0_rows c_p0_rows (tag H_p0_rows p0.rows), nestO subN_Row H_p0_rows p0.rows, rowR encInt A_p0_edges_North c_p0_edges_North p0.edges.North, rowR encInt A_p0_edges_East c_p0_edges_East p0.edges.East, rowR encInt A_p0_edges_South c_p0_edges_South p0.edges.South, rowR encInt A_p0_edges_West c_p0_edges_West p0.edges.West, rowR encInt A_p1_Cells c_p1_Cells p1.Cells] [] := St.init (ro_cons hR0 (ro_cons hR1 (ro_cons hR2 (ro_cons hR3 (ro_cons hR4 (ro_cons hR5 (ro_cons hR6 (ro_cons hR7 (ro_nil _ _)))))))))
 refine enter 77 Tryd.func60 rfl Tryd.ntmps60 rfl ?_
 unfold fill_job_allows at hf
 refine WC.seq ?_
 refine WC.region ?_
 refine WL.new hS 4 [] (fun g => (.pointer (some ⟨g, 0, none⟩))) (.cells #[(.slice A_p1_Cells p1.Cells.length c_p1_Cells), (iv p1.South.e0), (iv p1.South.e1), (iv p1.South.e2), (iv p1.South.e3), (iv p1.South.e4), (iv p1.South.e5), (iv p1.South.e6), (iv p1.South.e7), (iv p1.North.e0), (iv p1.North.e1), (iv p1.North.e2), (iv p1.North.e3), (iv p1.North.e4), (iv p1.North.e5), (iv p1.North.e6), (iv p1.North.e7), (iv p1.West), (iv p1.East)] 85 (0, 0)) [] (fun fb g => by kernel_rfl) trivial (fun g3258 w3259 hS3260 => ?_)
 refine ⟨trivial, ?_⟩
 refine seg 2 [] [0, 2, 4] [(0, (.pointer (some ⟨g_p0, 0, none⟩))), (2, (iv p2)), (4, (pt g3258))] [] (fun fb => by kernel_rfl) rfl trivial ?_
 refine WL.done rfl ?_
 refine WX.next ?_
 refine WC.seq ?_
 refine WC.seq ?_
 refine WC.regionD ([(4, ⟨g_p0, 6, none⟩, (.slice A_p0_edges_West p0.edges.West.length c_p0_edges_West)), (7, ⟨g3258, 17, none⟩, (iv p1.West)), (18, ⟨g3258, 18, none⟩, (iv p1.East))], [0, 1, 2, 3, 4, 5, 6, 7, 9, 10, 11, 12, 13, 14, 16, 17, 18, 20, 21], [[], [0], [0, 1], [0, 1, 2], [0, 1, 2, 3], [], [], [6], [0, 1, 2, 3, 4, 5, 6, 7], [0, 1, 2, 3, 4, 5, 6, 7, 8], [0, 1, 2, 3, 4, 5, 6, 7, 8, 9], [0, 1, 2, 3, 4, 5, 6, 7, 8, 9, 10], [0, 1, 2, 3, 4, 5, 6, 7, 8, 9, 10, 11], [0, 1, 2, 3, 4, 5, 6, 7, 8, 9, 10, 11, 12], [0, 1, 2, 3, 4, 5, 6, 7, 8, 9, 10, 11, 12, 13], [0, 1, 2, 3, 4, 5, 6, 7, 8, 9, 10, 11, 12, 13, 14], [0, 1, 2, 3, 4, 5, 6, 7, 8, 9, 10], [0, 1, 2, 3, 4, 5, 6, 7, 8, 9, 10], [0, 1, 2, 3, 4, 5, 6, 7, 8, 9, 10, 17], [0, 1, 2, 3, 4, 5, 6, 7, 8, 9, 10, 11, 12, 13, 14, 15, 16, 17, 18], [0, 1, 2, 3, 4, 5, 6, 7, 8, 9, 10, 11, 12, 13, 14, 15, 16, 17, 18, 19], [0, 1, 2, 3, 4, 5, 6, 7, 8, 9, 10, 11, 12, 13, 14, 15, 16, 17, 18, 19, 20]]) [[0, 1, 2, 3, 4, 5, 6, 7, 8, 9, 10, 11, 12, 13, 14, 16, 17, 18, 15, 19, 20, 21]] (by kernel_rfl) (by kernel_rfl) (NoPanic.seq (NoPanic.seq (NoPanic.body))) ?_
 have hS3292 := hS3260.drew
 revert hS3292
 generalize World.drew w3259 = w3291
 intro hS3292
 refine ⟨⟨blk_cell (hS3292.rd 0).1 6 rfl, hS3292.cell 0 rfl 17 rfl, hS3292.cell 0 rfl 18 rfl, trivial⟩, forallC ?_ (forallN)⟩
 refine segF 8 [.v (.slice A_p0_edges_West p0.edges.West.length c_p0_edges_West), .v (iv p1.West)] [0, 2, 4, 12, 13, 15] [(0, (.pointer (some ⟨g_p0, 0, none⟩))), (2, (iv p2)), (4, (pt g3258)), (12, (.slice A_p0_edges_West p0.edges.West.length c_p0_edges_West)), (13, (iv p2)), (15, (iv p1.West))] [] [0, 1] [(4, ⟨g_p0, 6, none⟩, (.slice A_p0_edges_West p0.edges.West.length c_p0_edges_West)), (7, ⟨g3258, 17, none⟩, (iv p1.West))] (fun fb => by kernel_rfl) rfl trivial rfl ?_
 obtain ⟨t3293, ht3294, hf⟩ := bind_some hf
 refine WL.call (some 16) 84 #[(.slice A_p0_edges_West p0.edges.West.length c_p0_edges_West), (iv p2), (iv p1.West)] (fun fb => by kernel_rfl) (fill_at_calls p0.edges.West p2 p1.West A_p0_edges_West c_p0_edges_West t3293 _ (hS3292.rd 6) ht3294) (fun v w3295 hR3296 => ?_)
 obtain ⟨rfl, hk_⟩ := hR3296
 have hS3297 := hS3292.keepN hk_
 refine ⟨⟨hS3297.cell 0 rfl 18 rfl, trivial⟩, ?_⟩
 refine seg 11 [] [0, 2, 4, 18] [(0, (.pointer (some ⟨g_p0, 0, none⟩))), (2, (iv p2)), (4, (pt g3258)), (18, (.bool (!t3293)))] [] (fun fb => by kernel_rfl) rfl trivial ?_
 obtain ⟨x3304, hx3305, hf⟩ := bind_some hf
 refine WL.cutW (T := Bool) 22 (fun t => [(0, (.pointer (some ⟨g_p0, 0, none⟩))), (2, (iv p2)), (4, (pt g3258)), (29, (.bool t))]) (fun t w1 => (St NoS w w1 [blk g_p0 (.cells #[(.slice A_p0_rows p0.rows.length c_p0_rows), (iv p0.width), (iv p0.height), (.slice A_p0_edges_North p0.edges.North.length c_p0_edges_North), (.slice A_p0_edges_East p0.edges.East.length c_p0_edges_East), (.slice A_p0_edges_South p0.edges.South.length c_p0_edges_South), (.slice A_p0_edges_West p0.edges.West.length c_p0_edges_West)] 81 (0, 0)), rowR encN_Row A_p0_rows c_p0_rows (tag H_p0_rows p0.rows), nestO subN_Row H_p0_rows p0.rows, rowR encInt A_p0_edges_North c_p0_edges_North p0.edges.North, rowR encInt A_p0_edges_East c_p0_edges_East p0.edges.East, rowR encInt A_p0_edges_South c_p0_edges_South p0.edges.South, rowR encInt A_p0_edges_West c_p0_edges_West p0.edges.West, rowR encInt A_p1_Cells c_p1_Cells p1.Cells] [blk g3258 (.cells #[(.slice A_p1_Cells p1.Cells.length c_p1_Cells), (iv p1.South.e0), (iv p1.South.e1), (iv p1.South.e2), (iv p1.South.e3), (iv p1.South.e4), (iv p1.South.e5), (iv p1.South.e6), (iv p1.South.e7), (iv p1.North.e0), (iv p1.North.e1), (iv p1.North.e2), (iv p1.North.e3), (iv p1.North.e4), (iv p1.North.e5), (iv p1.North.e6), (iv p1.North.e7), (iv p1.West), (iv p1.East)] 85 (0, 0))] ∧ x3304 = t) ∧ CellsOK [] w1) (fun K => ?_) ?_
 ·
  rcases br_some hx3305 with ⟨h3306, hx3305⟩ | ⟨h3306, hx3305⟩
  ·
   refine WL.setB 18 h3306 rfl ?_
   refine seg 22 [] [0, 2, 4, 29] [(0, (.pointer (some ⟨g_p0, 0, none⟩))), (2, (iv p2)), (4, (pt g3258)), (29, (.bool true))] [] (fun fb => by kernel_rfl) rfl trivial ?_
   injection hx3305 with hx3305
   exact WL.to K true [0, 2, 4, 29] rfl ⟨⟨(hS3297.subR [0, 1, 2, 3, 4, 5, 6, 7]).sub [0] (by decide), hx3305.symm⟩, trivial⟩
  refine WL.setB 18 h3306 rfl ?_
  refine segF 19 [.v (iv p1.East), .v (.slice A_p0_edges_East p0.edges.East.length c_p0_edges_East)] [0, 2, 4, 18, 23, 24, 26] [(0, (.pointer (some ⟨g_p0, 0, none⟩))), (2, (iv p2)), (4, (pt g3258)), (18, (.bool false)), (23, (.slice A_p0_edges_East p0.edges.East.length c_p0_edges_East)), (24, (iv p2)), (26, (iv p1.East))] [.cell ⟨g_p0, 4, none⟩ (.slice A_p0_edges_East p0.edges.East.length c_p0_edges_East)] [2] [(18, ⟨g3258, 18, none⟩, (iv p1.East))] (fun fb => by kernel_rfl) rfl ⟨blk_cell (hS3297.rd 0).1 4 rfl, trivial⟩ rfl ?_
  obtain ⟨t3307, ht3308, hx3305⟩ := bind_some hx3305
  refine WL.call (some 27) 84 #[(.slice A_p0_edges_East p0.edges.East.length c_p0_edges_East), (iv p2), (iv p1.East)] (fun fb => by kernel_rfl) (fill_at_calls p0.edges.East p2 p1.East A_p0_edges_East c_p0_edges_East t3307 _ (hS3297.rd 4) ht3308) (fun v w3309 hR3310 => ?_)
  obtain ⟨rfl, hk_⟩ := hR3310
  have hS3311 := hS3297.keepN hk_
  refine ⟨trivial, ?_⟩
  refine seg 22 [] [0, 2, 4, 29] [(0, (.pointer (some ⟨g_p0, 0, none⟩))), (2, (iv p2)), (4, (pt g3258)), (29, (.bool (!t3307)))] [] (fun fb => by kernel_rfl) rfl trivial ?_
  injection hx3305 with hx3305
  exact WL.to K (!t3307) [0, 2, 4, 29] rfl ⟨⟨(hS3311.subR [0, 1, 2, 3, 4, 5, 6, 7]).sub [0] (by decide), hx3305.symm⟩, trivial⟩
 rintro y3312 w3314 ⟨⟨hS3315, hq3313⟩, hF3316⟩
 subst hq3313
 refine WL.done rfl ?_
 refine WX.next ?_
 rcases br_some hf with ⟨h3317, hf⟩ | ⟨h3317, hf⟩
 ·refine WC.condT2 (fun fb => by kernel_rfl) h3317 ?_
  refine WC.seq ?_
  refine WC.region ?_
  refine seg 1 [] [6] [(6, (.bool false))] [] (fun fb => by kernel_rfl) rfl trivial ?_
  refine WL.done rfl ?_
  refine WX.next ?_
  refine WC.ret ?_
  injection hf with hf
  subst hf
  exact WX.thenR (WX.ret_ [] (.bool false) [] (fun fb => by kernel_rfl) trivial ⟨_, rfl, rfl, hS3315.keep⟩)
 refine WC.condF2 (fun fb => by kernel_rfl) h3317 ?_
 refine WC.skip ?_
 refine WX.next ?_
 refine WC.seq ?_
 refine WC.seq ?_
 refine WC.region ?_
 refine seg 5 [.v (iv p0.width)] [0, 2, 4, 33, 34] [(0, (.pointer (some ⟨g_p0, 0, none⟩))), (2, (iv p2)), (4, (pt g3258)), (33, (iv p0.width)), (34, (iv 0))] [.cell ⟨g_p0, 1, none⟩ (iv p0.width)] (fun fb => by kernel_rfl) rfl ⟨blk_cell (hS3315.rd 0).1 1 rfl, trivial⟩ ?_
 refine WL.done rfl ?_
 refine WX.next ?_
 obtain ⟨x3854, hx3855, hf⟩ := bind_some hf
 refine WC.cutN (T := Unit) (fun t => []) (fun t w1 => St NoS w w1 [blk g_p0 (.cells #[(.slice A_p0_rows p0.rows.length c_p0_rows), (iv p0.width), (iv p0.height), (.slice A_p0_edges_North p0.edges.North.length c_p0_edges_North), (.slice A_p0_edges_East p0.edges.East.length c_p0_edges_East), (.slice A_p0_edges_South p0.edges.South.length c_p0_edges_South), (.slice A_p0_edges_West p0.edges.West.length c_p0_edges_West)] 81 (0, 0)), rowR encN_Row A_p0_rows c_p0_rows (tag H_p0_rows p0.rows), nestO subN_Row H_p0_rows p0.rows, rowR encInt A_p0_edges_North c_p0_edges_North p0.edges.North, rowR encInt A_p0_edges_East c_p0_edges_East p0.edges.East, rowR encInt A_p0_edges_South c_p0_edges_South p0.edges.South, rowR encInt A_p0_edges_West c_p0_edges_West p0.edges.West, rowR encInt A_p1_Cells c_p1_Cells p1.Cells] [] ∧ x3854 = .inr t) (fun Kx3854 => ?_) ?_
 ·
  refine WC.block ?_
  refine WC.loop (T := Int) (fun t => [(0, (.pointer (some ⟨g_p0, 0, none⟩))), (2, (iv p2)), (4, (pt g3258)), (33, (iv p0.width)), (34, (iv t))]) (fun n t w1 => St NoS w w1 [blk g_p0 (.cells #[(.slice A_p0_rows p0.rows.length c_p0_rows), (iv p0.width), (iv p0.height), (.slice A_p0_edges_North p0.edges.North.length c_p0_edges_North), (.slice A_p0_edges_East p0.edges.East.length c_p0_edges_East), (.slice A_p0_edges_South p0.edges.South.length c_p0_edges_South), (.slice A_p0_edges_West p0.edges.West.length c_p0_edges_West)] 81 (0, 0)), rowR encN_Row A_p0_rows c_p0_rows (tag H_p0_rows p0.rows), nestO subN_Row H_p0_rows p0.rows, rowR encInt A_p0_edges_North c_p0_edges_North p0.edges.North, rowR encInt A_p0_edges_East c_p0_edges_East p0.edges.East, rowR encInt A_p0_edges_South c_p0_edges_South p0.edges.South, rowR encInt A_p0_edges_West c_p0_edges_West p0.edges.West, rowR encInt A_p1_Cells c_p1_Cells p1.Cells] [blk g3258 (.cells #[(.slice A_p1_Cells p1.Cells.length c_p1_Cells), (iv p1.South.e0), (iv p1.South.e1), (iv p1.South.e2), (iv p1.South.e3), (iv p1.South.e4), (iv p1.South.e5), (iv p1.South.e6), (iv p1.South.e7), (iv p1.North.e0), (iv p1.North.e1), (iv p1.North.e2), (iv p1.North.e3), (iv p1.North.e4), (iv p1.North.e5), (iv p1.North.e6), (iv p1.North.e7), (iv p1.West), (iv p1.East)] 85 (0, 0))] ∧ fill_job_allows.l0 n t p0 p1 p2 = some x3854) k 0 [0, 2, 4, 33, 34] rfl ⟨(hS3315.subR [0, 1, 2, 3, 4, 5, 6, 7]).sub [0] (by decide), hx3855⟩ ?_
  rintro k3856 x3853 w3857 ⟨hS3858, hl3859⟩
  cases k3856 with
  | zero => rw [fill_job_allows.l0] at hl3859; cases hl3859
  | succ k3856 =>
   rw [fill_job_allows.l0] at hl3859
   refine WC.seq ?_
   refine WC.region ?_
   refine seg 1 [] [0, 2, 4, 33, 34, 35] [(0, (.pointer (some ⟨g_p0, 0, none⟩))), (2, (iv p2)), (4, (pt g3258)), (33, (iv p0.width)), (34, (iv x3853)), (35, (.bool (decide (x3853 < p0.width))))] [] (fun fb => by kernel_rfl) rfl trivial ?_
   refine WL.done rfl ?_
   refine WX.next ?_
   refine WC.seq ?_
   rcases br_some hl3859 with ⟨h3860, hl3859⟩ | ⟨h3860, hl3859⟩
   ·refine WC.condT2 (fun fb => by kernel_rfl) h3860 ?_
    refine WC.skip ?_
    refine WX.next ?_
    refine WC.seq ?_
    refine WC.block ?_
    refine WC.seq ?_
    refine WC.region ?_
    refine seg 2 [] [0, 2, 4, 7, 33, 34] [(0, (.pointer (some ⟨g_p0, 0, none⟩))), (2, (iv p2)), (4, (pt g3258)), (7, (iv x3853)), (33, (iv p0.width)), (34, (iv x3853))] [] (fun fb => by kernel_rfl) rfl trivial ?_
    refine WL.done rfl ?_
    refine WX.next ?_
    refine WC.seq ?_
    obtain ⟨x3996, hx3997, hl3859⟩ := bind_some hl3859
    refine WC.cutN (T := Bool) (fun t => [(0, (.pointer (some ⟨g_p0, 0, none⟩))), (2, (iv p2)), (4, (pt g3258)), (33, (iv p0.width)), (34, (iv x3853)), (75, (.bool t))]) (fun t w1 => St NoS w w1 [blk g_p0 (.cells #[(.slice A_p0_rows p0.rows.length c_p0_rows), (iv p0.width), (iv p0.height), (.slice A_p0_edges_North p0.edges.North.length c_p0_edges_North), (.slice A_p0_edges_East p0.edges.East.length c_p0_edges_East), (.slice A_p0_edges_South p0.edges.South.length c_p0_edges_South), (.slice A_p0_edges_West p0.edges.West.length c_p0_edges_West)] 81 (0, 0)), rowR encN_Row A_p0_rows c_p0_rows (tag H_p0_rows p0.rows), nestO subN_Row H_p0_rows p0.rows, rowR encInt A_p0_edges_North c_p0_edges_North p0.edges.North, rowR encInt A_p0_edges_East c_p0_edges_East p0.edges.East, rowR encInt A_p0_edges_South c_p0_edges_South p0.edges.South, rowR encInt A_p0_edges_West c_p0_edges_West p0.edges.West, rowR encInt A_p1_Cells c_p1_Cells p1.Cells] [blk g3258 (.cells #[(.slice A_p1_Cells p1.Cells.length c_p1_Cells), (iv p1.South.e0), (iv p1.South.e1), (iv p1.South.e2), (iv p1.South.e3), (iv p1.South.e4), (iv p1.South.e5), (iv p1.South.e6), (iv p1.South.e7), (iv p1.North.e0), (iv p1.North.e1), (iv p1.North.e2), (iv p1.North.e3), (iv p1.North.e4), (iv p1.North.e5), (iv p1.North.e6), (iv p1.North.e7), (iv p1.West), (iv p1.East)] 85 (0, 0))] ∧ x3996 = t) (fun Kx3996 => ?_) ?_
    ·
     rcases br_some hx3997 with ⟨h3998, hx3997⟩ | ⟨h3998, hx3997⟩
     ·
      rcases br_some hx3997 with ⟨h4005, hx3997⟩ | ⟨h4005, hx3997⟩
      ·
       obtain ⟨h4034, hx3997⟩ := as_some hx3997
       refine WC.regionD ([(7, ⟨g_p0, 5, none⟩, (.slice A_p0_edges_South p0.edges.South.length c_p0_edges_South)), (12, (flatA ⟨g3258, 1, none⟩ (x3853.toNat * 1)), (iv (A8_Int.get p1.South x3853)))], [0, 1, 2, 3, 4, 5, 6, 7, 8, 9, 10, 11, 12, 14, 15, 16, 17, 18, 19, 20, 22, 23, 24, 25, 26, 27, 28, 30, 31, 32, 33, 36, 37, 38], [[], [0], [0, 1], [0, 1, 2], [0, 1, 2, 3], [0, 1, 2, 3, 4], [0, 1, 2, 3, 4, 5], [0, 1, 2, 3, 4, 5, 6], [0, 1, 2], [0, 1, 2], [0, 1, 2], [0, 1, 2, 9, 10], [0, 1, 2, 9, 10, 11], [0, 1, 2, 3, 4, 5, 6, 7, 8, 9, 10, 11, 12], [0, 1, 2, 3, 4, 5, 6, 7, 8, 9, 10, 11, 12, 13], [0, 1, 2, 3, 4, 5, 6, 7, 8, 9, 10, 11, 12, 13, 14], [0, 1, 2, 3, 4, 5, 6, 7, 8, 9, 10, 11, 12, 13, 14, 15], [0, 1, 2, 3, 4, 5, 6, 7, 8, 9, 10, 11, 12, 13, 14, 15, 16], [0, 1, 2, 3, 4, 5, 6, 7, 8, 9, 10, 11, 12, 13, 14, 15, 16], [0, 1, 2, 3, 4, 5, 6, 7, 8, 9, 10, 11, 12, 13, 14, 15, 16, 18], [0, 1, 2, 3, 4, 5, 6, 7, 8, 9, 10, 11, 12, 13, 14, 15, 16, 18, 19], [0, 1, 2, 3, 4, 5, 6, 7, 8, 9, 10, 11, 12, 13, 14, 15, 16, 18, 19, 20], [0, 1, 2, 3, 4, 5, 6, 7, 8, 9, 10, 11, 12, 13, 14, 15, 16, 18, 19, 20, 21], [0, 1, 2, 3, 4, 5, 6, 7, 8, 9, 10, 11, 12, 13, 14, 15, 16, 17, 18, 19, 20, 21, 22], [0, 1, 2, 3, 4, 5, 6, 7, 8, 9, 10, 11, 12, 13, 14, 15, 16, 17, 18, 19, 20, 21, 22, 23], [0, 1, 2, 3, 4, 5, 6, 7, 8, 9, 10, 11, 12, 13, 14, 15, 16, 17, 18, 19, 20, 21, 22, 23, 24], [0, 1, 2, 3, 4, 5, 6, 7, 8, 9, 10, 11, 12, 13, 14, 15, 16, 17, 18, 19, 20, 21, 22, 23, 24, 25], [0, 1, 2, 3, 4, 5, 6, 7, 8, 9, 10, 11, 12, 13, 14, 15, 16, 17, 18, 19, 20, 21, 22, 23, 24, 25, 26], [0, 1, 2, 3, 4, 5, 6, 7, 8, 9, 10, 11, 12, 13, 14, 15, 16, 17, 18, 19, 20, 21, 22, 23, 24, 25, 26, 27], [0, 1, 2, 3, 4, 5, 6, 7, 8, 9, 10, 11, 12, 13, 14, 15, 16, 17, 18, 19, 20, 21, 22, 23, 24, 25, 26, 27, 28], [0, 1, 2, 3, 4, 5, 6, 7, 8, 9, 10, 11, 12, 13, 14, 15, 16, 17, 18, 19, 20, 21, 22, 23, 24], [0, 1, 2, 3, 4, 5, 6, 7, 8, 9, 10, 11, 12, 13, 14, 15, 16, 17, 18, 19, 20, 21, 22, 23, 24], [0, 1, 2, 3, 4, 5, 6, 7, 8, 9, 10, 11, 12, 13, 14, 15, 16, 17, 18, 19, 20, 21, 22, 23, 24], [0, 1, 2, 3, 4, 5, 6, 7, 8, 9, 10, 11, 12, 13, 14, 15, 16, 17, 18, 19, 20, 21, 22, 23, 24, 31, 32], [0, 1, 2, 3, 4, 5, 6, 7, 8, 9, 10, 11, 12, 13, 14, 15, 16, 17, 18, 19, 20, 21, 22, 23, 24, 31, 32, 33], [0, 1, 2, 3, 4, 5, 6, 7, 8, 9, 10, 11, 12, 13, 14, 15, 16, 17, 18, 19, 20, 21, 22, 23, 24, 25, 26, 27, 28, 29, 30, 31, 32, 33, 34], [0, 1, 2, 3, 4, 5, 6, 7, 8, 9, 10, 11, 12, 13, 14, 15, 16, 17, 18, 19, 20, 21, 22, 23, 24, 25, 26, 27, 28, 29, 30, 31, 32, 33, 34, 35], [0, 1, 2, 3, 4, 5, 6, 7, 8, 9, 10, 11, 12, 13, 14, 15, 16, 17, 18, 19, 20, 21, 22, 23, 24, 25, 26, 27, 28, 29, 30, 31, 32, 33, 34, 35, 36], [0, 1, 2, 3, 4, 5, 6, 7, 8, 9, 10, 11, 12, 13, 14, 15, 16, 17, 18, 19, 20, 21, 22, 23, 24, 25, 26, 27, 28, 29, 30, 31, 32, 33, 34, 35, 36, 37]]) [[0, 1, 2, 3, 4, 5, 6, 7, 8, 9, 10, 11, 12, 13, 14, 15, 16, 17, 18, 19, 20, 21, 22, 23, 24, 25, 26, 27, 28, 30, 31, 32, 33, 29, 34, 35, 36, 37, 38], [0, 1, 2, 3, 4, 5, 6, 7, 8, 9, 10, 11, 12, 13, 14, 15, 16, 17, 18, 19, 20, 21, 22, 23, 24, 25, 26, 27, 28, 30, 31, 32, 33, 34, 29, 35, 36, 37, 38]] (by kernel_rfl) (by kernel_rfl) (NoPanic.seq (NoPanic.block (NoPanic.seq (NoPanic.seq (NoPanic.block (NoPanic.seq (NoPanic.body))))))) ?_
       have hS4032 := hS3858.drew
       revert hS4032
       generalize World.drew w3857 = w4031
       intro hS4032
       refine ⟨⟨blk_cell (hS4032.rd 0).1 5 rfl, hS4032.cell 0 rfl _ (cases8 (Q := fun z_ => (#[(.slice A_p1_Cells p1.Cells.length c_p1_Cells), (iv p1.South.e0), (iv p1.South.e1), (iv p1.South.e2), (iv p1.South.e3), (iv p1.South.e4), (iv p1.South.e5), (iv p1.South.e6), (iv p1.South.e7), (iv p1.North.e0), (iv p1.North.e1), (iv p1.North.e2), (iv p1.North.e3), (iv p1.North.e4), (iv p1.North.e5), (iv p1.North.e6), (iv p1.North.e7), (iv p1.West), (iv p1.East)] : Array Value)[1 + z_.toNat * 1]? = some (iv (A8_Int.get p1.South z_))) h4034 (by kernel_rfl) (by kernel_rfl) (by kernel_rfl) (by kernel_rfl) (by kernel_rfl) (by kernel_rfl) (by kernel_rfl) (by kernel_rfl)), trivial⟩, forallC ?_ (forallC ?_ (forallN))⟩
       ·
        refine seg 3 [] [0, 2, 4, 7, 33, 34, 39] [(0, (.pointer (some ⟨g_p0, 0, none⟩))), (2, (iv p2)), (4, (pt g3258)), (7, (iv x3853)), (33, (iv p0.width)), (34, (iv x3853)), (39, (.bool (p2 == 0)))] [] (fun fb => by kernel_rfl) rfl trivial ?_
        refine WL.setB 39 h3998 rfl ?_
        refine segF 13 [.v (.slice A_p0_edges_South p0.edges.South.length c_p0_edges_South), .v (iv (A8_Int.get p1.South x3853))] [0, 2, 4, 7, 33, 34, 39, 44, 45, 49] [(0, (.pointer (some ⟨g_p0, 0, none⟩))), (2, (iv p2)), (4, (pt g3258)), (7, (iv x3853)), (33, (iv p0.width)), (34, (iv x3853)), (39, (.bool true)), (44, (.slice A_p0_edges_South p0.edges.South.length c_p0_edges_South)), (45, (iv x3853)), (49, (iv (A8_Int.get p1.South x3853)))] [.idx (some ⟨0, 0, none⟩) x3853 8] [0, 1] [(7, ⟨g_p0, 5, none⟩, (.slice A_p0_edges_South p0.edges.South.length c_p0_edges_South)), (12, (flatA ⟨g3258, 1, none⟩ (x3853.toNat * 1)), (iv (A8_Int.get p1.South x3853)))] (fun fb => by kernel_rfl) rfl ⟨⟨h4034.1, h4034.2, rfl⟩, trivial⟩ rfl ?_
        obtain ⟨t4035, ht4036, hx3997⟩ := bind_some hx3997
        refine WL.call (some 50) 84 #[(.slice A_p0_edges_South p0.edges.South.length c_p0_edges_South), (iv x3853), (iv (A8_Int.get p1.South x3853))] (fun fb => by kernel_rfl) (fill_at_calls p0.edges.South x3853 (A8_Int.get p1.South x3853) A_p0_edges_South c_p0_edges_South t4035 _ (hS4032.rd 5) ht4036) (fun v w4037 hR4038 => ?_)
        obtain ⟨rfl, hk_⟩ := hR4038
        have hS4039 := hS4032.keepN hk_
        refine ⟨trivial, ?_⟩
        refine seg 17 [] [0, 2, 4, 7, 33, 34, 53] [(0, (.pointer (some ⟨g_p0, 0, none⟩))), (2, (iv p2)), (4, (pt g3258)), (7, (iv x3853)), (33, (iv p0.width)), (34, (iv x3853)), (53, (.bool (!t4035)))] [] (fun fb => by kernel_rfl) rfl trivial ?_
        obtain ⟨x4046, hx4047, hx3997⟩ := bind_some hx3997
        refine WL.cutW (T := Bool) 39 (fun t => [(0, (.pointer (some ⟨g_p0, 0, none⟩))), (2, (iv p2)), (4, (pt g3258)), (33, (iv p0.width)), (34, (iv x3853)), (75, (.bool t))]) (fun t w1 => (St NoS w w1 [blk g_p0 (.cells #[(.slice A_p0_rows p0.rows.length c_p0_rows), (iv p0.width), (iv p0.height), (.slice A_p0_edges_North p0.edges.North.length c_p0_edges_North), (.slice A_p0_edges_East p0.edges.East.length c_p0_edges_East), (.slice A_p0_edges_South p0.edges.South.length c_p0_edges_South), (.slice A_p0_edges_West p0.edges.West.length c_p0_edges_West)] 81 (0, 0)), rowR encN_Row A_p0_rows c_p0_rows (tag H_p0_rows p0.rows), nestO subN_Row H_p0_rows p0.rows, rowR encInt A_p0_edges_North c_p0_edges_North p0.edges.North, rowR encInt A_p0_edges_East c_p0_edges_East p0.edges.East, rowR encInt A_p0_edges_South c_p0_edges_South p0.edges.South, rowR encInt A_p0_edges_West c_p0_edges_West p0.edges.West, rowR encInt A_p1_Cells c_p1_Cells p1.Cells] [blk g3258 (.cells #[(.slice A_p1_Cells p1.Cells.length c_p1_Cells), (iv p1.South.e0), (iv p1.South.e1), (iv p1.South.e2), (iv p1.South.e3), (iv p1.South.e4), (iv p1.South.e5), (iv p1.South.e6), (iv p1.South.e7), (iv p1.North.e0), (iv p1.North.e1), (iv p1.North.e2), (iv p1.North.e3), (iv p1.North.e4), (iv p1.North.e5), (iv p1.North.e6), (iv p1.North.e7), (iv p1.West), (iv p1.East)] 85 (0, 0))] ∧ x4046 = t) ∧ CellsOK [] w1) (fun K => ?_) ?_
        ·
         rcases br_some hx4047 with ⟨h4048, hx4047⟩ | ⟨h4048, hx4047⟩
         ·
          refine WL.setB 53 h4048 rfl ?_
          refine seg 39 [] [0, 2, 4, 33, 34, 75] [(0, (.pointer (some ⟨g_p0, 0, none⟩))), (2, (iv p2)), (4, (pt g3258)), (33, (iv p0.width)), (34, (iv x3853)), (75, (.bool true))] [] (fun fb => by kernel_rfl) rfl trivial ?_
          injection hx4047 with hx4047
          exact WL.to K true [0, 2, 4, 33, 34, 75] rfl ⟨⟨(hS4039.subR [0, 1, 2, 3, 4, 5, 6, 7]).sub [0] (by decide), hx4047.symm⟩, trivial⟩
         refine WL.setB 53 h4048 rfl ?_
         refine seg 25 [.v (iv p0.height)] [0, 2, 4, 7, 33, 34, 53, 61] [(0, (.pointer (some ⟨g_p0, 0, none⟩))), (2, (iv p2)), (4, (pt g3258)), (7, (iv x3853)), (33, (iv p0.width)), (34, (iv x3853)), (53, (.bool false)), (61, (.bool (p2 == (w64 (p0.height - 1)))))] [.cell ⟨g_p0, 2, none⟩ (iv p0.height)] (fun fb => by kernel_rfl) rfl ⟨blk_cell (hS4039.rd 0).1 2 rfl, trivial⟩ ?_
         refine WL.setB 61 h4005 rfl ?_
         refine seg 35 [.v (.slice A_p0_edges_North p0.edges.North.length c_p0_edges_North), .v (iv (A8_Int.get p1.North x3853))] [0, 2, 4, 33, 34, 53, 61, 66, 67, 71] [(0, (.pointer (some ⟨g_p0, 0, none⟩))), (2, (iv p2)), (4, (pt g3258)), (33, (iv p0.width)), (34, (iv x3853)), (53, (.bool false)), (61, (.bool true)), (66, (.slice A_p0_edges_North p0.edges.North.length c_p0_edges_North)), (67, (iv x3853)), (71, (iv (A8_Int.get p1.North x3853)))] [.idx (some ⟨0, 0, none⟩) x3853 8, .cell ⟨g_p0, 3, none⟩ (.slice A_p0_edges_North p0.edges.North.length c_p0_edges_North), .cell (flatA ⟨g3258, 9, none⟩ (x3853.toNat * 1)) (iv (A8_Int.get p1.North x3853))] (fun fb => by kernel_rfl) rfl ⟨⟨h4034.1, h4034.2, rfl⟩, blk_cell (hS4039.rd 0).1 3 rfl, hS4039.cell 0 rfl _ (cases8 (Q := fun z_ => (#[(.slice A_p1_Cells p1.Cells.length c_p1_Cells), (iv p1.South.e0), (iv p1.South.e1), (iv p1.South.e2), (iv p1.South.e3), (iv p1.South.e4), (iv p1.South.e5), (iv p1.South.e6), (iv p1.South.e7), (iv p1.North.e0), (iv p1.North.e1), (iv p1.North.e2), (iv p1.North.e3), (iv p1.North.e4), (iv p1.North.e5), (iv p1.North.e6), (iv p1.North.e7), (iv p1.West), (iv p1.East)] : Array Value)[9 + z_.toNat * 1]? = some (iv (A8_Int.get p1.North z_))) h4034 (by kernel_rfl) (by kernel_rfl) (by kernel_rfl) (by kernel_rfl) (by kernel_rfl) (by kernel_rfl) (by kernel_rfl) (by kernel_rfl)), trivial⟩ ?_
         obtain ⟨t4049, ht4050, hx4047⟩ := bind_some hx4047
         refine WL.call (some 72) 84 #[(.slice A_p0_edges_North p0.edges.North.length c_p0_edges_North), (iv x3853), (iv (A8_Int.get p1.North x3853))] (fun fb => by kernel_rfl) (fill_at_calls p0.edges.North x3853 (A8_Int.get p1.North x3853) A_p0_edges_North c_p0_edges_North t4049 _ (hS4039.rd 3) ht4050) (fun v w4051 hR4052 => ?_)
         obtain ⟨rfl, hk_⟩ := hR4052
         have hS4053 := hS4039.keepN hk_
         refine ⟨trivial, ?_⟩
         refine seg 39 [] [0, 2, 4, 33, 34, 75] [(0, (.pointer (some ⟨g_p0, 0, none⟩))), (2, (iv p2)), (4, (pt g3258)), (33, (iv p0.width)), (34, (iv x3853)), (75, (.bool (!t4049)))] [] (fun fb => by kernel_rfl) rfl trivial ?_
         injection hx4047 with hx4047
         exact WL.to K (!t4049) [0, 2, 4, 33, 34, 75] rfl ⟨⟨(hS4053.subR [0, 1, 2, 3, 4, 5, 6, 7]).sub [0] (by decide), hx4047.symm⟩, trivial⟩
        rintro y4054 w4056 ⟨⟨hS4057, hq4055⟩, hF4058⟩
        subst hq4055
        refine WL.done rfl ?_
        injection hx3997 with hx3997
        exact WX.to Kx3996 x4046 [0, 2, 4, 33, 34, 75] rfl ⟨(hS4057.subR [0, 1, 2, 3, 4, 5, 6, 7]).sub [0] (by decide), hx3997.symm⟩
       refine seg 3 [] [0, 2, 4, 7, 33, 34, 39] [(0, (.pointer (some ⟨g_p0, 0, none⟩))), (2, (iv p2)), (4, (pt g3258)), (7, (iv x3853)), (33, (iv p0.width)), (34, (iv x3853)), (39, (.bool (p2 == 0)))] [] (fun fb => by kernel_rfl) rfl trivial ?_
       refine WL.setB 39 h3998 rfl ?_
       refine segF 13 [.v (.slice A_p0_edges_South p0.edges.South.length c_p0_edges_South), .v (iv (A8_Int.get p1.South x3853))] [0, 2, 4, 7, 33, 34, 39, 44, 45, 49] [(0, (.pointer (some ⟨g_p0, 0, none⟩))), (2, (iv p2)), (4, (pt g3258)), (7, (iv x3853)), (33, (iv p0.width)), (34, (iv x3853)), (39, (.bool true)), (44, (.slice A_p0_edges_South p0.edges.South.length c_p0_edges_South)), (45, (iv x3853)), (49, (iv (A8_Int.get p1.South x3853)))] [.idx (some ⟨0, 0, none⟩) x3853 8] [0, 1] [(7, ⟨g_p0, 5, none⟩, (.slice A_p0_edges_South p0.edges.South.length c_p0_edges_South)), (12, (flatA ⟨g3258, 1, none⟩ (x3853.toNat * 1)), (iv (A8_Int.get p1.South x3853)))] (fun fb => by kernel_rfl) rfl ⟨⟨h4034.1, h4034.2, rfl⟩, trivial⟩ rfl ?_
       obtain ⟨t4059, ht4060, hx3997⟩ := bind_some hx3997
       refine WL.call (some 50) 84 #[(.slice A_p0_edges_South p0.edges.South.length c_p0_edges_South), (iv x3853), (iv (A8_Int.get p1.South x3853))] (fun fb => by kernel_rfl) (fill_at_calls p0.edges.South x3853 (A8_Int.get p1.South x3853) A_p0_edges_South c_p0_edges_South t4059 _ (hS4032.rd 5) ht4060) (fun v w4061 hR4062 => ?_)
       obtain ⟨rfl, hk_⟩ := hR4062
       have hS4063 := hS4032.keepN hk_
       refine ⟨trivial, ?_⟩
       refine seg 17 [] [0, 2, 4, 7, 33, 34, 53] [(0, (.pointer (some ⟨g_p0, 0, none⟩))), (2, (iv p2)), (4, (pt g3258)), (7, (iv x3853)), (33, (iv p0.width)), (34, (iv x3853)), (53, (.bool (!t4059)))] [] (fun fb => by kernel_rfl) rfl trivial ?_
       obtain ⟨x4070, hx4071, hx3997⟩ := bind_some hx3997
       refine WL.cutW (T := Bool) 39 (fun t => [(0, (.pointer (some ⟨g_p0, 0, none⟩))), (2, (iv p2)), (4, (pt g3258)), (33, (iv p0.width)), (34, (iv x3853)), (75, (.bool t))]) (fun t w1 => (St NoS w w1 [blk g_p0 (.cells #[(.slice A_p0_rows p0.rows.length c_p0_rows), (iv p0.width), (iv p0.height), (.slice A_p0_edges_North p0.edges.North.length c_p0_edges_North), (.slice A_p0_edges_East p0.edges.East.length c_p0_edges_East), (.slice A_p0_edges_South p0.edges.South.length c_p0_edges_South), (.slice A_p0_edges_West p0.edges.West.length c_p0_edges_West)] 81 (0, 0)), rowR encN_Row A_p0_rows c_p0_rows (tag H_p0_rows p0.rows), nestO subN_Row H_p0_rows p0.rows, rowR encInt A_p0_edges_North c_p0_edges_North p0.edges.North, rowR encInt A_p0_edges_East c_p0_edges_East p0.edges.East, rowR encInt A_p0_edges_South c_p0_edges_South p0.edges.South, rowR encInt A_p0_edges_West c_p0_edges_West p0.edges.West, rowR encInt A_p1_Cells c_p1_Cells p1.Cells] [blk g3258 (.cells #[(.slice A_p1_Cells p1.Cells.length c_p1_Cells), (iv p1.South.e0), (iv p1.South.e1), (iv p1.South.e2), (iv p1.South.e3), (iv p1.South.e4), (iv p1.South.e5), (iv p1.South.e6), (iv p1.South.e7), (iv p1.North.e0), (iv p1.North.e1), (iv p1.North.e2), (iv p1.North.e3), (iv p1.North.e4), (iv p1.North.e5), (iv p1.North.e6), (iv p1.North.e7), (iv p1.West), (iv p1.East)] 85 (0, 0))] ∧ x4070 = t) ∧ CellsOK [] w1) (fun K => ?_) ?_
       ·
        rcases br_some hx4071 with ⟨h4072, hx4071⟩ | ⟨h4072, hx4071⟩
        ·
         refine WL.setB 53 h4072 rfl ?_
         refine seg 39 [] [0, 2, 4, 33, 34, 75] [(0, (.pointer (some ⟨g_p0, 0, none⟩))), (2, (iv p2)), (4, (pt g3258)), (33, (iv p0.width)), (34, (iv x3853)), (75, (.bool true))] [] (fun fb => by kernel_rfl) rfl trivial ?_
         injection hx4071 with hx4071
         exact WL.to K true [0, 2, 4, 33, 34, 75] rfl ⟨⟨(hS4063.subR [0, 1, 2, 3, 4, 5, 6, 7]).sub [0] (by decide), hx4071.symm⟩, trivial⟩
        refine WL.setB 53 h4072 rfl ?_
        refine seg 25 [.v (iv p0.height)] [0, 2, 4, 7, 33, 34, 53, 61] [(0, (.pointer (some ⟨g_p0, 0, none⟩))), (2, (iv p2)), (4, (pt g3258)), (7, (iv x3853)), (33, (iv p0.width)), (34, (iv x3853)), (53, (.bool false)), (61, (.bool (p2 == (w64 (p0.height - 1)))))] [.cell ⟨g_p0, 2, none⟩ (iv p0.height)] (fun fb => by kernel_rfl) rfl ⟨blk_cell (hS4063.rd 0).1 2 rfl, trivial⟩ ?_
        refine WL.setB 61 h4005 rfl ?_
        refine seg 35 [.v (iv (A8_Int.get p1.North x3853)), .v (.slice A_p0_edges_North p0.edges.North.length c_p0_edges_North)] [0, 2, 4, 33, 34, 53, 61, 66, 67, 71] [(0, (.pointer (some ⟨g_p0, 0, none⟩))), (2, (iv p2)), (4, (pt g3258)), (33, (iv p0.width)), (34, (iv x3853)), (53, (.bool false)), (61, (.bool true)), (66, (.slice A_p0_edges_North p0.edges.North.length c_p0_edges_North)), (67, (iv x3853)), (71, (iv (A8_Int.get p1.North x3853)))] [.idx (some ⟨0, 0, none⟩) x3853 8, .cell (flatA ⟨g3258, 9, none⟩ (x3853.toNat * 1)) (iv (A8_Int.get p1.North x3853)), .cell ⟨g_p0, 3, none⟩ (.slice A_p0_edges_North p0.edges.North.length c_p0_edges_North)] (fun fb => by kernel_rfl) rfl ⟨⟨h4034.1, h4034.2, rfl⟩, hS4063.cell 0 rfl _ (cases8 (Q := fun z_ => (#[(.slice A_p1_Cells p1.Cells.length c_p1_Cells), (iv p1.South.e0), (iv p1.South.e1), (iv p1.South.e2), (iv p1.South.e3), (iv p1.South.e4), (iv p1.South.e5), (iv p1.South.e6), (iv p1.South.e7), (iv p1.North.e0), (iv p1.North.e1), (iv p1.North.e2), (iv p1.North.e3), (iv p1.North.e4), (iv p1.North.e5), (iv p1.North.e6), (iv p1.North.e7), (iv p1.West), (iv p1.East)] : Array Value)[9 + z_.toNat * 1]? = some (iv (A8_Int.get p1.North z_))) h4034 (by kernel_rfl) (by kernel_rfl) (by kernel_rfl) (by kernel_rfl) (by kernel_rfl) (by kernel_rfl) (by kernel_rfl) (by kernel_rfl)), blk_cell (hS4063.rd 0).1 3 rfl, trivial⟩ ?_
        obtain ⟨t4073, ht4074, hx4071⟩ := bind_some hx4071
        refine WL.call (some 72) 84 #[(.slice A_p0_edges_North p0.edges.North.length c_p0_edges_North), (iv x3853), (iv (A8_Int.get p1.North x3853))] (fun fb => by kernel_rfl) (fill_at_calls p0.edges.North x3853 (A8_Int.get p1.North x3853) A_p0_edges_North c_p0_edges_North t4073 _ (hS4063.rd 3) ht4074) (fun v w4075 hR4076 => ?_)
        obtain ⟨rfl, hk_⟩ := hR4076
        have hS4077 := hS4063.keepN hk_
        refine ⟨trivial, ?_⟩
        refine seg 39 [] [0, 2, 4, 33, 34, 75] [(0, (.pointer (some ⟨g_p0, 0, none⟩))), (2, (iv p2)), (4, (pt g3258)), (33, (iv p0.width)), (34, (iv x3853)), (75, (.bool (!t4073)))] [] (fun fb => by kernel_rfl) rfl trivial ?_
        injection hx4071 with hx4071
        exact WL.to K (!t4073) [0, 2, 4, 33, 34, 75] rfl ⟨⟨(hS4077.subR [0, 1, 2, 3, 4, 5, 6, 7]).sub [0] (by decide), hx4071.symm⟩, trivial⟩
       rintro y4078 w4080 ⟨⟨hS4081, hq4079⟩, hF4082⟩
       subst hq4079
       refine WL.done rfl ?_
       injection hx3997 with hx3997
       exact WX.to Kx3996 x4070 [0, 2, 4, 33, 34, 75] rfl ⟨(hS4081.subR [0, 1, 2, 3, 4, 5, 6, 7]).sub [0] (by decide), hx3997.symm⟩
      obtain ⟨h4094, hx3997⟩ := as_some hx3997
      refine WC.regionD ([(7, ⟨g_p0, 5, none⟩, (.slice A_p0_edges_South p0.edges.South.length c_p0_edges_South)), (12, (flatA ⟨g3258, 1, none⟩ (x3853.toNat * 1)), (iv (A8_Int.get p1.South x3853)))], [0, 1, 2, 3, 4, 5, 6, 7, 8, 9, 10, 11, 12, 14, 15, 16, 17, 18, 19, 20, 22, 23, 24, 25, 26, 27, 28, 30, 31, 32, 33, 36, 37, 38], [[], [0], [0, 1], [0, 1, 2], [0, 1, 2, 3], [0, 1, 2, 3, 4], [0, 1, 2, 3, 4, 5], [0, 1, 2, 3, 4, 5, 6], [0, 1, 2], [0, 1, 2], [0, 1, 2], [0, 1, 2, 9, 10], [0, 1, 2, 9, 10, 11], [0, 1, 2, 3, 4, 5, 6, 7, 8, 9, 10, 11, 12], [0, 1, 2, 3, 4, 5, 6, 7, 8, 9, 10, 11, 12, 13], [0, 1, 2, 3, 4, 5, 6, 7, 8, 9, 10, 11, 12, 13, 14], [0, 1, 2, 3, 4, 5, 6, 7, 8, 9, 10, 11, 12, 13, 14, 15], [0, 1, 2, 3, 4, 5, 6, 7, 8, 9, 10, 11, 12, 13, 14, 15, 16], [0, 1, 2, 3, 4, 5, 6, 7, 8, 9, 10, 11, 12, 13, 14, 15, 16], [0, 1, 2, 3, 4, 5, 6, 7, 8, 9, 10, 11, 12, 13, 14, 15, 16, 18], [0, 1, 2, 3, 4, 5, 6, 7, 8, 9, 10, 11, 12, 13, 14, 15, 16, 18, 19], [0, 1, 2, 3, 4, 5, 6, 7, 8, 9, 10, 11, 12, 13, 14, 15, 16, 18, 19, 20], [0, 1, 2, 3, 4, 5, 6, 7, 8, 9, 10, 11, 12, 13, 14, 15, 16, 18, 19, 20, 21], [0, 1, 2, 3, 4, 5, 6, 7, 8, 9, 10, 11, 12, 13, 14, 15, 16, 17, 18, 19, 20, 21, 22], [0, 1, 2, 3, 4, 5, 6, 7, 8, 9, 10, 11, 12, 13, 14, 15, 16, 17, 18, 19, 20, 21, 22, 23], [0, 1, 2, 3, 4, 5, 6, 7, 8, 9, 10, 11, 12, 13, 14, 15, 16, 17, 18, 19, 20, 21, 22, 23, 24], [0, 1, 2, 3, 4, 5, 6, 7, 8, 9, 10, 11, 12, 13, 14, 15, 16, 17, 18, 19, 20, 21, 22, 23, 24, 25], [0, 1, 2, 3, 4, 5, 6, 7, 8, 9, 10, 11, 12, 13, 14, 15, 16, 17, 18, 19, 20, 21, 22, 23, 24, 25, 26], [0, 1, 2, 3, 4, 5, 6, 7, 8, 9, 10, 11, 12, 13, 14, 15, 16, 17, 18, 19, 20, 21, 22, 23, 24, 25, 26, 27], [0, 1, 2, 3, 4, 5, 6, 7, 8, 9, 10, 11, 12, 13, 14, 15, 16, 17, 18, 19, 20, 21, 22, 23, 24, 25, 26, 27, 28], [0, 1, 2, 3, 4, 5, 6, 7, 8, 9, 10, 11, 12, 13, 14, 15, 16, 17, 18, 19, 20, 21, 22, 23, 24], [0, 1, 2, 3, 4, 5, 6, 7, 8, 9, 10, 11, 12, 13, 14, 15, 16, 17, 18, 19, 20, 21, 22, 23, 24], [0, 1, 2, 3, 4, 5, 6, 7, 8, 9, 10, 11, 12, 13, 14, 15, 16, 17, 18, 19, 20, 21, 22, 23, 24], [0, 1, 2, 3, 4, 5, 6, 7, 8, 9, 10, 11, 12, 13, 14, 15, 16, 17, 18, 19, 20, 21, 22, 23, 24, 31, 32], [0, 1, 2, 3, 4, 5, 6, 7, 8, 9, 10, 11, 12, 13, 14, 15, 16, 17, 18, 19, 20, 21, 22, 23, 24, 31, 32, 33], [0, 1, 2, 3, 4, 5, 6, 7, 8, 9, 10, 11, 12, 13, 14, 15, 16, 17, 18, 19, 20, 21, 22, 23, 24, 25, 26, 27, 28, 29, 30, 31, 32, 33, 34], [0, 1, 2, 3, 4, 5, 6, 7, 8, 9, 10, 11, 12, 13, 14, 15, 16, 17, 18, 19, 20, 21, 22, 23, 24, 25, 26, 27, 28, 29, 30, 31, 32, 33, 34, 35], [0, 1, 2, 3, 4, 5, 6, 7, 8, 9, 10, 11, 12, 13, 14, 15, 16, 17, 18, 19, 20, 21, 22, 23, 24, 25, 26, 27, 28, 29, 30, 31, 32, 33, 34, 35, 36], [0, 1, 2, 3, 4, 5, 6, 7, 8, 9, 10, 11, 12, 13, 14, 15, 16, 17, 18, 19, 20, 21, 22, 23, 24, 25, 26, 27, 28, 29, 30, 31, 32, 33, 34, 35, 36, 37]]) [[0, 1, 2, 3, 4, 5, 6, 7, 8, 9, 10, 11, 12, 13, 14, 15, 16, 17, 18, 19, 20, 21, 22, 23, 24, 25, 26, 27, 28, 30, 31, 32, 33, 29, 34, 35, 36, 37, 38], [0, 1, 2, 3, 4, 5, 6, 7, 8, 9, 10, 11, 12, 13, 14, 15, 16, 17, 18, 19, 20, 21, 22, 23, 24, 25, 26, 27, 28, 30, 31, 32, 33, 34, 29, 35, 36, 37, 38]] (by kernel_rfl) (by kernel_rfl) (NoPanic.seq (NoPanic.block (NoPanic.seq (NoPanic.seq (NoPanic.block (NoPanic.seq (NoPanic.body))))))) ?_
      have hS4092 := hS3858.drew
      revert hS4092
      generalize World.drew w3857 = w4091
      intro hS4092
      refine ⟨⟨blk_cell (hS4092.rd 0).1 5 rfl, hS4092.cell 0 rfl _ (cases8 (Q := fun z_ => (#[(.slice A_p1_Cells p1.Cells.length c_p1_Cells), (iv p1.South.e0), (iv p1.South.e1), (iv p1.South.e2), (iv p1.South.e3), (iv p1.South.e4), (iv p1.South.e5), (iv p1.South.e6), (iv p1.South.e7), (iv p1.North.e0), (iv p1.North.e1), (iv p1.North.e2), (iv p1.North.e3), (iv p1.North.e4), (iv p1.North.e5), (iv p1.North.e6), (iv p1.North.e7), (iv p1.West), (iv p1.East)] : Array Value)[1 + z_.toNat * 1]? = some (iv (A8_Int.get p1.South z_))) h4094 (by kernel_rfl) (by kernel_rfl) (by kernel_rfl) (by kernel_rfl) (by kernel_rfl) (by kernel_rfl) (by kernel_rfl) (by kernel_rfl)), trivial⟩, forallC ?_ (forallC ?_ (forallN))⟩
      ·
       refine seg 3 [] [0, 2, 4, 7, 33, 34, 39] [(0, (.pointer (some ⟨g_p0, 0, none⟩))), (2, (iv p2)), (4, (pt g3258)), (7, (iv x3853)), (33, (iv p0.width)), (34, (iv x3853)), (39, (.bool (p2 == 0)))] [] (fun fb => by kernel_rfl) rfl trivial ?_
       refine WL.setB 39 h3998 rfl ?_
       refine segF 13 [.v (.slice A_p0_edges_South p0.edges.South.length c_p0_edges_South), .v (iv (A8_Int.get p1.South x3853))] [0, 2, 4, 7, 33, 34, 39, 44, 45, 49] [(0, (.pointer (some ⟨g_p0, 0, none⟩))), (2, (iv p2)), (4, (pt g3258)), (7, (iv x3853)), (33, (iv p0.width)), (34, (iv x3853)), (39, (.bool true)), (44, (.slice A_p0_edges_South p0.edges.South.length c_p0_edges_South)), (45, (iv x3853)), (49, (iv (A8_Int.get p1.South x3853)))] [.idx (some ⟨0, 0, none⟩) x3853 8] [0, 1] [(7, ⟨g_p0, 5, none⟩, (.slice A_p0_edges_South p0.edges.South.length c_p0_edges_South)), (12, (flatA ⟨g3258, 1, none⟩ (x3853.toNat * 1)), (iv (A8_Int.get p1.South x3853)))] (fun fb => by kernel_rfl) rfl ⟨⟨h4094.1, h4094.2, rfl⟩, trivial⟩ rfl ?_
       obtain ⟨t4095, ht4096, hx3997⟩ := bind_some hx3997
       refine WL.call (some 50) 84 #[(.slice A_p0_edges_South p0.edges.South.length c_p0_edges_South), (iv x3853), (iv (A8_Int.get p1.South x3853))] (fun fb => by kernel_rfl) (fill_at_calls p0.edges.South x3853 (A8_Int.get p1.South x3853) A_p0_edges_South c_p0_edges_South t4095 _ (hS4092.rd 5) ht4096) (fun v w4097 hR4098 => ?_)
       obtain ⟨rfl, hk_⟩ := hR4098
       have hS4099 := hS4092.keepN hk_
       refine ⟨trivial, ?_⟩
       refine seg 17 [] [0, 2, 4, 7, 33, 34, 53] [(0, (.pointer (some ⟨g_p0, 0, none⟩))), (2, (iv p2)), (4, (pt g3258)), (7, (iv x3853)), (33, (iv p0.width)), (34, (iv x3853)), (53, (.bool (!t4095)))] [] (fun fb => by kernel_rfl) rfl trivial ?_
       refine WL.cutV (T := Bool) 39 (fun t => [(75, (.bool t)), (0, (.pointer (some ⟨g_p0, 0, none⟩))), (2, (iv p2)), (4, (pt g3258)), (33, (iv p0.width)), (34, (iv x3853))]) (fun t => (!t4095) = t) (fun K => ?_) ?_
       ·
        rcases Bool.eq_false_or_eq_true (!t4095) with h4100 | h4100
        ·
         refine WL.setB 53 h4100 rfl ?_
         refine seg 39 [] [0, 2, 4, 33, 34, 75] [(0, (.pointer (some ⟨g_p0, 0, none⟩))), (2, (iv p2)), (4, (pt g3258)), (33, (iv p0.width)), (34, (iv x3853)), (75, (.bool true))] [] (fun fb => by kernel_rfl) rfl trivial ?_
         exact WL.toV K true [75, 0, 2, 4, 33, 34] rfl (by first | (rw [h4100]; done) | (rw [h4100]; rfl))
        refine WL.setB 53 h4100 rfl ?_
        refine seg 25 [.v (iv p0.height)] [0, 2, 4, 7, 33, 34, 53, 61] [(0, (.pointer (some ⟨g_p0, 0, none⟩))), (2, (iv p2)), (4, (pt g3258)), (7, (iv x3853)), (33, (iv p0.width)), (34, (iv x3853)), (53, (.bool false)), (61, (.bool (p2 == (w64 (p0.height - 1)))))] [.cell ⟨g_p0, 2, none⟩ (iv p0.height)] (fun fb => by kernel_rfl) rfl ⟨blk_cell (hS4099.rd 0).1 2 rfl, trivial⟩ ?_
        refine WL.setB 61 h4005 rfl ?_
        refine seg 39 [] [0, 2, 4, 33, 34, 75] [(0, (.pointer (some ⟨g_p0, 0, none⟩))), (2, (iv p2)), (4, (pt g3258)), (33, (iv p0.width)), (34, (iv x3853)), (75, (.bool false))] [] (fun fb => by kernel_rfl) rfl trivial ?_
        exact WL.toV K false [75, 0, 2, 4, 33, 34] rfl (by first | (rw [h4100]; done) | (rw [h4100]; rfl))
       rintro b4101 rfl
       refine WL.done rfl ?_
       injection hx3997 with hx3997
       exact WX.to Kx3996 (!t4095) [0, 2, 4, 33, 34, 75] rfl ⟨(hS4099.subR [0, 1, 2, 3, 4, 5, 6, 7]).sub [0] (by decide), hx3997.symm⟩
      refine seg 3 [] [0, 2, 4, 7, 33, 34, 39] [(0, (.pointer (some ⟨g_p0, 0, none⟩))), (2, (iv p2)), (4, (pt g3258)), (7, (iv x3853)), (33, (iv p0.width)), (34, (iv x3853)), (39, (.bool (p2 == 0)))] [] (fun fb => by kernel_rfl) rfl trivial ?_
      refine WL.setB 39 h3998 rfl ?_
      refine segF 13 [.v (.slice A_p0_edges_South p0.edges.South.length c_p0_edges_South), .v (iv (A8_Int.get p1.South x3853))] [0, 2, 4, 7, 33, 34, 39, 44, 45, 49] [(0, (.pointer (some ⟨g_p0, 0, none⟩))), (2, (iv p2)), (4, (pt g3258)), (7, (iv x3853)), (33, (iv p0.width)), (34, (iv x3853)), (39, (.bool true)), (44, (.slice A_p0_edges_South p0.edges.South.length c_p0_edges_South)), (45, (iv x3853)), (49, (iv (A8_Int.get p1.South x3853)))] [.idx (some ⟨0, 0, none⟩) x3853 8] [0, 1] [(7, ⟨g_p0, 5, none⟩, (.slice A_p0_edges_South p0.edges.South.length c_p0_edges_South)), (12, (flatA ⟨g3258, 1, none⟩ (x3853.toNat * 1)), (iv (A8_Int.get p1.South x3853)))] (fun fb => by kernel_rfl) rfl ⟨⟨h4094.1, h4094.2, rfl⟩, trivial⟩ rfl ?_
      obtain ⟨t4102, ht4103, hx3997⟩ := bind_some hx3997
      refine WL.call (some 50) 84 #[(.slice A_p0_edges_South p0.edges.South.length c_p0_edges_South), (iv x3853), (iv (A8_Int.get p1.South x3853))] (fun fb => by kernel_rfl) (fill_at_calls p0.edges.South x3853 (A8_Int.get p1.South x3853) A_p0_edges_South c_p0_edges_South t4102 _ (hS4092.rd 5) ht4103) (fun v w4104 hR4105 => ?_)
      obtain ⟨rfl, hk_⟩ := hR4105
      have hS4106 := hS4092.keepN hk_
      refine ⟨trivial, ?_⟩
      refine seg 17 [] [0, 2, 4, 7, 33, 34, 53] [(0, (.pointer (some ⟨g_p0, 0, none⟩))), (2, (iv p2)), (4, (pt g3258)), (7, (iv x3853)), (33, (iv p0.width)), (34, (iv x3853)), (53, (.bool (!t4102)))] [] (fun fb => by kernel_rfl) rfl trivial ?_
      refine WL.cutV (T := Bool) 39 (fun t => [(75, (.bool t)), (0, (.pointer (some ⟨g_p0, 0, none⟩))), (2, (iv p2)), (4, (pt g3258)), (33, (iv p0.width)), (34, (iv x3853))]) (fun t => (!t4102) = t) (fun K => ?_) ?_
      ·
       rcases Bool.eq_false_or_eq_true (!t4102) with h4107 | h4107
       ·
        refine WL.setB 53 h4107 rfl ?_
        refine seg 39 [] [0, 2, 4, 33, 34, 75] [(0, (.pointer (some ⟨g_p0, 0, none⟩))), (2, (iv p2)), (4, (pt g3258)), (33, (iv p0.width)), (34, (iv x3853)), (75, (.bool true))] [] (fun fb => by kernel_rfl) rfl trivial ?_
        exact WL.toV K true [75, 0, 2, 4, 33, 34] rfl (by first | (rw [h4107]; done) | (rw [h4107]; rfl))
       refine WL.setB 53 h4107 rfl ?_
       refine seg 25 [.v (iv p0.height)] [0, 2, 4, 7, 33, 34, 53, 61] [(0, (.pointer (some ⟨g_p0, 0, none⟩))), (2, (iv p2)), (4, (pt g3258)), (7, (iv x3853)), (33, (iv p0.width)), (34, (iv x3853)), (53, (.bool false)), (61, (.bool (p2 == (w64 (p0.height - 1)))))] [.cell ⟨g_p0, 2, none⟩ (iv p0.height)] (fun fb => by kernel_rfl) rfl ⟨blk_cell (hS4106.rd 0).1 2 rfl, trivial⟩ ?_
       refine WL.setB 61 h4005 rfl ?_
       refine seg 39 [] [0, 2, 4, 33, 34, 75] [(0, (.pointer (some ⟨g_p0, 0, none⟩))), (2, (iv p2)), (4, (pt g3258)), (33, (iv p0.width)), (34, (iv x3853)), (75, (.bool false))] [] (fun fb => by kernel_rfl) rfl trivial ?_
       exact WL.toV K false [75, 0, 2, 4, 33, 34] rfl (by first | (rw [h4107]; done) | (rw [h4107]; rfl))
      rintro b4108 rfl
      refine WL.done rfl ?_
      injection hx3997 with hx3997
      exact WX.to Kx3996 (!t4102) [0, 2, 4, 33, 34, 75] rfl ⟨(hS4106.subR [0, 1, 2, 3, 4, 5, 6, 7]).sub [0] (by decide), hx3997.symm⟩
     rcases br_some hx3997 with ⟨h4109, hx3997⟩ | ⟨h4109, hx3997⟩
     ·
      refine WC.regionD ([], [0, 1, 2, 3, 4, 5, 6, 7, 8, 9, 10, 11, 12, 14, 15, 16, 17, 18, 19, 20, 22, 23, 24, 25, 26, 27, 28, 30, 31, 32, 33, 36, 37, 38], [[], [0], [0, 1], [0, 1, 2], [0, 1, 2, 3], [0, 1, 2, 3, 4], [0, 1, 2, 3, 4, 5], [0, 1, 2, 3, 4, 5, 6], [0, 1, 2], [0, 1, 2], [0, 1, 2], [0, 1, 2, 9, 10], [0, 1, 2, 9, 10, 11], [0, 1, 2, 3, 4, 5, 6, 7, 8, 9, 10, 11, 12], [0, 1, 2, 3, 4, 5, 6, 7, 8, 9, 10, 11, 12, 13], [0, 1, 2, 3, 4, 5, 6, 7, 8, 9, 10, 11, 12, 13, 14], [0, 1, 2, 3, 4, 5, 6, 7, 8, 9, 10, 11, 12, 13, 14, 15], [0, 1, 2, 3, 4, 5, 6, 7, 8, 9, 10, 11, 12, 13, 14, 15, 16], [0, 1, 2, 3, 4, 5, 6, 7, 8, 9, 10, 11, 12, 13, 14, 15, 16], [0, 1, 2, 3, 4, 5, 6, 7, 8, 9, 10, 11, 12, 13, 14, 15, 16, 18], [0, 1, 2, 3, 4, 5, 6, 7, 8, 9, 10, 11, 12, 13, 14, 15, 16, 18, 19], [0, 1, 2, 3, 4, 5, 6, 7, 8, 9, 10, 11, 12, 13, 14, 15, 16, 18, 19, 20], [0, 1, 2, 3, 4, 5, 6, 7, 8, 9, 10, 11, 12, 13, 14, 15, 16, 18, 19, 20, 21], [0, 1, 2, 3, 4, 5, 6, 7, 8, 9, 10, 11, 12, 13, 14, 15, 16, 17, 18, 19, 20, 21, 22], [0, 1, 2, 3, 4, 5, 6, 7, 8, 9, 10, 11, 12, 13, 14, 15, 16, 17, 18, 19, 20, 21, 22, 23], [0, 1, 2, 3, 4, 5, 6, 7, 8, 9, 10, 11, 12, 13, 14, 15, 16, 17, 18, 19, 20, 21, 22, 23, 24], [0, 1, 2, 3, 4, 5, 6, 7, 8, 9, 10, 11, 12, 13, 14, 15, 16, 17, 18, 19, 20, 21, 22, 23, 24, 25], [0, 1, 2, 3, 4, 5, 6, 7, 8, 9, 10, 11, 12, 13, 14, 15, 16, 17, 18, 19, 20, 21, 22, 23, 24, 25, 26], [0, 1, 2, 3, 4, 5, 6, 7, 8, 9, 10, 11, 12, 13, 14, 15, 16, 17, 18, 19, 20, 21, 22, 23, 24, 25, 26, 27], [0, 1, 2, 3, 4, 5, 6, 7, 8, 9, 10, 11, 12, 13, 14, 15, 16, 17, 18, 19, 20, 21, 22, 23, 24, 25, 26, 27, 28], [0, 1, 2, 3, 4, 5, 6, 7, 8, 9, 10, 11, 12, 13, 14, 15, 16, 17, 18, 19, 20, 21, 22, 23, 24], [0, 1, 2, 3, 4, 5, 6, 7, 8, 9, 10, 11, 12, 13, 14, 15, 16, 17, 18, 19, 20, 21, 22, 23, 24], [0, 1, 2, 3, 4, 5, 6, 7, 8, 9, 10, 11, 12, 13, 14, 15, 16, 17, 18, 19, 20, 21, 22, 23, 24], [0, 1, 2, 3, 4, 5, 6, 7, 8, 9, 10, 11, 12, 13, 14, 15, 16, 17, 18, 19, 20, 21, 22, 23, 24, 31, 32], [0, 1, 2, 3, 4, 5, 6, 7, 8, 9, 10, 11, 12, 13, 14, 15, 16, 17, 18, 19, 20, 21, 22, 23, 24, 31, 32, 33], [0, 1, 2, 3, 4, 5, 6, 7, 8, 9, 10, 11, 12, 13, 14, 15, 16, 17, 18, 19, 20, 21, 22, 23, 24, 25, 26, 27, 28, 29, 30, 31, 32, 33, 34], [0, 1, 2, 3, 4, 5, 6, 7, 8, 9, 10, 11, 12, 13, 14, 15, 16, 17, 18, 19, 20, 21, 22, 23, 24, 25, 26, 27, 28, 29, 30, 31, 32, 33, 34, 35], [0, 1, 2, 3, 4, 5, 6, 7, 8, 9, 10, 11, 12, 13, 14, 15, 16, 17, 18, 19, 20, 21, 22, 23, 24, 25, 26, 27, 28, 29, 30, 31, 32, 33, 34, 35, 36], [0, 1, 2, 3, 4, 5, 6, 7, 8, 9, 10, 11, 12, 13, 14, 15, 16, 17, 18, 19, 20, 21, 22, 23, 24, 25, 26, 27, 28, 29, 30, 31, 32, 33, 34, 35, 36, 37]]) [[0, 1, 2, 3, 4, 5, 6, 7, 8, 9, 10, 11, 12, 13, 14, 15, 16, 17, 18, 19, 20, 21, 22, 23, 24, 25, 26, 27, 28, 30, 31, 32, 33, 29, 34, 35, 36, 37, 38], [0, 1, 2, 3, 4, 5, 6, 7, 8, 9, 10, 11, 12, 13, 14, 15, 16, 17, 18, 19, 20, 21, 22, 23, 24, 25, 26, 27, 28, 30, 31, 32, 33, 34, 29, 35, 36, 37, 38]] (by kernel_rfl) (by kernel_rfl) (NoPanic.seq (NoPanic.block (NoPanic.seq (NoPanic.seq (NoPanic.block (NoPanic.seq (NoPanic.body))))))) ?_
      have hS4117 := hS3858.drew
      revert hS4117
      generalize World.drew w3857 = w4116
      intro hS4117
      refine ⟨trivial, forallC ?_ (forallC ?_ (forallN))⟩
      ·
       refine seg 3 [] [0, 2, 4, 7, 33, 34, 39] [(0, (.pointer (some ⟨g_p0, 0, none⟩))), (2, (iv p2)), (4, (pt g3258)), (7, (iv x3853)), (33, (iv p0.width)), (34, (iv x3853)), (39, (.bool (p2 == 0)))] [] (fun fb => by kernel_rfl) rfl trivial ?_
       refine WL.setB 39 h3998 rfl ?_
       refine seg 25 [.v (iv p0.height)] [0, 2, 4, 7, 33, 34, 53, 61] [(0, (.pointer (some ⟨g_p0, 0, none⟩))), (2, (iv p2)), (4, (pt g3258)), (7, (iv x3853)), (33, (iv p0.width)), (34, (iv x3853)), (53, (.bool false)), (61, (.bool (p2 == (w64 (p0.height - 1)))))] [.cell ⟨g_p0, 2, none⟩ (iv p0.height)] (fun fb => by kernel_rfl) rfl ⟨blk_cell (hS4117.rd 0).1 2 rfl, trivial⟩ ?_
       refine WL.setB 61 h4109 rfl ?_
       refine seg 32 [] [0, 2, 4, 33, 34, 53, 61, 65, 67, 68, 69] [(0, (.pointer (some ⟨g_p0, 0, none⟩))), (2, (iv p2)), (4, (pt g3258)), (33, (iv p0.width)), (34, (iv x3853)), (53, (.bool false)), (61, (.bool true)), (65, (.pointer (some ⟨g_p0, 3, none⟩))), (67, (iv x3853)), (68, (iv x3853)), (69, (.pointer (some ⟨g3258, 9, none⟩)))] [] (fun fb => by kernel_rfl) rfl trivial ?_
       obtain ⟨h4118, hx3997⟩ := as_some hx3997
       refine seg 35 [.v (.slice A_p0_edges_North p0.edges.North.length c_p0_edges_North), .v (iv (A8_Int.get p1.North x3853))] [0, 2, 4, 33, 34, 53, 61, 66, 67, 71] [(0, (.pointer (some ⟨g_p0, 0, none⟩))), (2, (iv p2)), (4, (pt g3258)), (33, (iv p0.width)), (34, (iv x3853)), (53, (.bool false)), (61, (.bool true)), (66, (.slice A_p0_edges_North p0.edges.North.length c_p0_edges_North)), (67, (iv x3853)), (71, (iv (A8_Int.get p1.North x3853)))] [.idx (some ⟨0, 0, none⟩) x3853 8, .cell ⟨g_p0, 3, none⟩ (.slice A_p0_edges_North p0.edges.North.length c_p0_edges_North), .cell (flatA ⟨g3258, 9, none⟩ (x3853.toNat * 1)) (iv (A8_Int.get p1.North x3853))] (fun fb => by kernel_rfl) rfl ⟨⟨h4118.1, h4118.2, rfl⟩, blk_cell (hS4117.rd 0).1 3 rfl, hS4117.cell 0 rfl _ (cases8 (Q := fun z_ => (#[(.slice A_p1_Cells p1.Cells.length c_p1_Cells), (iv p1.South.e0), (iv p1.South.e1), (iv p1.South.e2), (iv p1.South.e3), (iv p1.South.e4), (iv p1.South.e5), (iv p1.South.e6), (iv p1.South.e7), (iv p1.North.e0), (iv p1.North.e1), (iv p1.North.e2), (iv p1.North.e3), (iv p1.North.e4), (iv p1.North.e5), (iv p1.North.e6), (iv p1.North.e7), (iv p1.West), (iv p1.East)] : Array Value)[9 + z_.toNat * 1]? = some (iv (A8_Int.get p1.North z_))) h4118 (by kernel_rfl) (by kernel_rfl) (by kernel_rfl) (by kernel_rfl) (by kernel_rfl) (by kernel_rfl) (by kernel_rfl) (by kernel_rfl)), trivial⟩ ?_
       obtain ⟨t4119, ht4120, hx3997⟩ := bind_some hx3997
       refine WL.call (some 72) 84 #[(.slice A_p0_edges_North p0.edges.North.length c_p0_edges_North), (iv x3853), (iv (A8_Int.get p1.North x3853))] (fun fb => by kernel_rfl) (fill_at_calls p0.edges.North x3853 (A8_Int.get p1.North x3853) A_p0_edges_North c_p0_edges_North t4119 _ (hS4117.rd 3) ht4120) (fun v w4121 hR4122 => ?_)
       obtain ⟨rfl, hk_⟩ := hR4122
       have hS4123 := hS4117.keepN hk_
       refine ⟨trivial, ?_⟩
       refine seg 39 [] [0, 2, 4, 33, 34, 75] [(0, (.pointer (some ⟨g_p0, 0, none⟩))), (2, (iv p2)), (4, (pt g3258)), (33, (iv p0.width)), (34, (iv x3853)), (75, (.bool (!t4119)))] [] (fun fb => by kernel_rfl) rfl trivial ?_
       refine WL.done rfl ?_
       injection hx3997 with hx3997
       exact WX.to Kx3996 (!t4119) [0, 2, 4, 33, 34, 75] rfl ⟨(hS4123.subR [0, 1, 2, 3, 4, 5, 6, 7]).sub [0] (by decide), hx3997.symm⟩
      refine seg 3 [] [0, 2, 4, 7, 33, 34, 39] [(0, (.pointer (some ⟨g_p0, 0, none⟩))), (2, (iv p2)), (4, (pt g3258)), (7, (iv x3853)), (33, (iv p0.width)), (34, (iv x3853)), (39, (.bool (p2 == 0)))] [] (fun fb => by kernel_rfl) rfl trivial ?_
      refine WL.setB 39 h3998 rfl ?_
      refine seg 25 [.v (iv p0.height)] [0, 2, 4, 7, 33, 34, 53, 61] [(0, (.pointer (some ⟨g_p0, 0, none⟩))), (2, (iv p2)), (4, (pt g3258)), (7, (iv x3853)), (33, (iv p0.width)), (34, (iv x3853)), (53, (.bool false)), (61, (.bool (p2 == (w64 (p0.height - 1)))))] [.cell ⟨g_p0, 2, none⟩ (iv p0.height)] (fun fb => by kernel_rfl) rfl ⟨blk_cell (hS4117.rd 0).1 2 rfl, trivial⟩ ?_
      refine WL.setB 61 h4109 rfl ?_
      refine seg 32 [] [0, 2, 4, 33, 34, 53, 61, 65, 67, 68, 69] [(0, (.pointer (some ⟨g_p0, 0, none⟩))), (2, (iv p2)), (4, (pt g3258)), (33, (iv p0.width)), (34, (iv x3853)), (53, (.bool false)), (61, (.bool true)), (65, (.pointer (some ⟨g_p0, 3, none⟩))), (67, (iv x3853)), (68, (iv x3853)), (69, (.pointer (some ⟨g3258, 9, none⟩)))] [] (fun fb => by kernel_rfl) rfl trivial ?_
      obtain ⟨h4124, hx3997⟩ := as_some hx3997
      refine seg 35 [.v (iv (A8_Int.get p1.North x3853)), .v (.slice A_p0_edges_North p0.edges.North.length c_p0_edges_North)] [0, 2, 4, 33, 34, 53, 61, 66, 67, 71] [(0, (.pointer (some ⟨g_p0, 0, none⟩))), (2, (iv p2)), (4, (pt g3258)), (33, (iv p0.width)), (34, (iv x3853)), (53, (.bool false)), (61, (.bool true)), (66, (.slice A_p0_edges_North p0.edges.North.length c_p0_edges_North)), (67, (iv x3853)), (71, (iv (A8_Int.get p1.North x3853)))] [.idx (some ⟨0, 0, none⟩) x3853 8, .cell (flatA ⟨g3258, 9, none⟩ (x3853.toNat * 1)) (iv (A8_Int.get p1.North x3853)), .cell ⟨g_p0, 3, none⟩ (.slice A_p0_edges_North p0.edges.North.length c_p0_edges_North)] (fun fb => by kernel_rfl) rfl ⟨⟨h4124.1, h4124.2, rfl⟩, hS4117.cell 0 rfl _ (cases8 (Q := fun z_ => (#[(.slice A_p1_Cells p1.Cells.length c_p1_Cells), (iv p1.South.e0), (iv p1.South.e1), (iv p1.South.e2), (iv p1.South.e3), (iv p1.South.e4), (iv p1.South.e5), (iv p1.South.e6), (iv p1.South.e7), (iv p1.North.e0), (iv p1.North.e1), (iv p1.North.e2), (iv p1.North.e3), (iv p1.North.e4), (iv p1.North.e5), (iv p1.North.e6), (iv p1.North.e7), (iv p1.West), (iv p1.East)] : Array Value)[9 + z_.toNat * 1]? = some (iv (A8_Int.get p1.North z_))) h4124 (by kernel_rfl) (by kernel_rfl) (by kernel_rfl) (by kernel_rfl) (by kernel_rfl) (by kernel_rfl) (by kernel_rfl) (by kernel_rfl)), blk_cell (hS4117.rd 0).1 3 rfl, trivial⟩ ?_
      obtain ⟨t4125, ht4126, hx3997⟩ := bind_some hx3997
      refine WL.call (some 72) 84 #[(.slice A_p0_edges_North p0.edges.North.length c_p0_edges_North), (iv x3853), (iv (A8_Int.get p1.North x3853))] (fun fb => by kernel_rfl) (fill_at_calls p0.edges.North x3853 (A8_Int.get p1.North x3853) A_p0_edges_North c_p0_edges_North t4125 _ (hS4117.rd 3) ht4126) (fun v w4127 hR4128 => ?_)
      obtain ⟨rfl, hk_⟩ := hR4128
      have hS4129 := hS4117.keepN hk_
      refine ⟨trivial, ?_⟩
      refine seg 39 [] [0, 2, 4, 33, 34, 75] [(0, (.pointer (some ⟨g_p0, 0, none⟩))), (2, (iv p2)), (4, (pt g3258)), (33, (iv p0.width)), (34, (iv x3853)), (75, (.bool (!t4125)))] [] (fun fb => by kernel_rfl) rfl trivial ?_
      refine WL.done rfl ?_
      injection hx3997 with hx3997
      exact WX.to Kx3996 (!t4125) [0, 2, 4, 33, 34, 75] rfl ⟨(hS4129.subR [0, 1, 2, 3, 4, 5, 6, 7]).sub [0] (by decide), hx3997.symm⟩
     refine WC.regionD ([], [0, 1, 2, 3, 4, 5, 6, 7, 8, 9, 10, 11, 12, 14, 15, 16, 17, 18, 19, 20, 22, 23, 24, 25, 26, 27, 28, 30, 31, 32, 33, 36, 37, 38], [[], [0], [0, 1], [0, 1, 2], [0, 1, 2, 3], [0, 1, 2, 3, 4], [0, 1, 2, 3, 4, 5], [0, 1, 2, 3, 4, 5, 6], [0, 1, 2], [0, 1, 2], [0, 1, 2], [0, 1, 2, 9, 10], [0, 1, 2, 9, 10, 11], [0, 1, 2, 3, 4, 5, 6, 7, 8, 9, 10, 11, 12], [0, 1, 2, 3, 4, 5, 6, 7, 8, 9, 10, 11, 12, 13], [0, 1, 2, 3, 4, 5, 6, 7, 8, 9, 10, 11, 12, 13, 14], [0, 1, 2, 3, 4, 5, 6, 7, 8, 9, 10, 11, 12, 13, 14, 15], [0, 1, 2, 3, 4, 5, 6, 7, 8, 9, 10, 11, 12, 13, 14, 15, 16], [0, 1, 2, 3, 4, 5, 6, 7, 8, 9, 10, 11, 12, 13, 14, 15, 16], [0, 1, 2, 3, 4, 5, 6, 7, 8, 9, 10, 11, 12, 13, 14, 15, 16, 18], [0, 1, 2, 3, 4, 5, 6, 7, 8, 9, 10, 11, 12, 13, 14, 15, 16, 18, 19], [0, 1, 2, 3, 4, 5, 6, 7, 8, 9, 10, 11, 12, 13, 14, 15, 16, 18, 19, 20], [0, 1, 2, 3, 4, 5, 6, 7, 8, 9, 10, 11, 12, 13, 14, 15, 16, 18, 19, 20, 21], [0, 1, 2, 3, 4, 5, 6, 7, 8, 9, 10, 11, 12, 13, 14, 15, 16, 17, 18, 19, 20, 21, 22], [0, 1, 2, 3, 4, 5, 6, 7, 8, 9, 10, 11, 12, 13, 14, 15, 16, 17, 18, 19, 20, 21, 22, 23], [0, 1, 2, 3, 4, 5, 6, 7, 8, 9, 10, 11, 12, 13, 14, 15, 16, 17, 18, 19, 20, 21, 22, 23, 24], [0, 1, 2, 3, 4, 5, 6, 7, 8, 9, 10, 11, 12, 13, 14, 15, 16, 17, 18, 19, 20, 21, 22, 23, 24, 25], [0, 1, 2, 3, 4, 5, 6, 7, 8, 9, 10, 11, 12, 13, 14, 15, 16, 17, 18, 19, 20, 21, 22, 23, 24, 25, 26], [0, 1, 2, 3, 4, 5, 6, 7, 8, 9, 10, 11, 12, 13, 14, 15, 16, 17, 18, 19, 20, 21, 22, 23, 24, 25, 26, 27], [0, 1, 2, 3, 4, 5, 6, 7, 8, 9, 10, 11, 12, 13, 14, 15, 16, 17, 18, 19, 20, 21, 22, 23, 24, 25, 26, 27, 28], [0, 1, 2, 3, 4, 5, 6, 7, 8, 9, 10, 11, 12, 13, 14, 15, 16, 17, 18, 19, 20, 21, 22, 23, 24], [0, 1, 2, 3, 4, 5, 6, 7, 8, 9, 10, 11, 12, 13, 14, 15, 16, 17, 18, 19, 20, 21, 22, 23, 24], [0, 1, 2, 3, 4, 5, 6, 7, 8, 9, 10, 11, 12, 13, 14, 15, 16, 17, 18, 19, 20, 21, 22, 23, 24], [0, 1, 2, 3, 4, 5, 6, 7, 8, 9, 10, 11, 12, 13, 14, 15, 16, 17, 18, 19, 20, 21, 22, 23, 24, 31, 32], [0, 1, 2, 3, 4, 5, 6, 7, 8, 9, 10, 11, 12, 13, 14, 15, 16, 17, 18, 19, 20, 21, 22, 23, 24, 31, 32, 33], [0, 1, 2, 3, 4, 5, 6, 7, 8, 9, 10, 11, 12, 13, 14, 15, 16, 17, 18, 19, 20, 21, 22, 23, 24, 25, 26, 27, 28, 29, 30, 31, 32, 33, 34], [0, 1, 2, 3, 4, 5, 6, 7, 8, 9, 10, 11, 12, 13, 14, 15, 16, 17, 18, 19, 20, 21, 22, 23, 24, 25, 26, 27, 28, 29, 30, 31, 32, 33, 34, 35], [0, 1, 2, 3, 4, 5, 6, 7, 8, 9, 10, 11, 12, 13, 14, 15, 16, 17, 18, 19, 20, 21, 22, 23, 24, 25, 26, 27, 28, 29, 30, 31, 32, 33, 34, 35, 36], [0, 1, 2, 3, 4, 5, 6, 7, 8, 9, 10, 11, 12, 13, 14, 15, 16, 17, 18, 19, 20, 21, 22, 23, 24, 25, 26, 27, 28, 29, 30, 31, 32, 33, 34, 35, 36, 37]]) [[0, 1, 2, 3, 4, 5, 6, 7, 8, 9, 10, 11, 12, 13, 14, 15, 16, 17, 18, 19, 20, 21, 22, 23, 24, 25, 26, 27, 28, 30, 31, 32, 33, 29, 34, 35, 36, 37, 38], [0, 1, 2, 3, 4, 5, 6, 7, 8, 9, 10, 11, 12, 13, 14, 15, 16, 17, 18, 19, 20, 21, 22, 23, 24, 25, 26, 27, 28, 30, 31, 32, 33, 34, 29, 35, 36, 37, 38]] (by kernel_rfl) (by kernel_rfl) (NoPanic.seq (NoPanic.block (NoPanic.seq (NoPanic.seq (NoPanic.block (NoPanic.seq (NoPanic.body))))))) ?_
     have hS4131 := hS3858.drew
     revert hS4131
     generalize World.drew w3857 = w4130
     intro hS4131
     refine ⟨trivial, forallC ?_ (forallC ?_ (forallN))⟩
     ·
      refine seg 3 [] [0, 2, 4, 7, 33, 34, 39] [(0, (.pointer (some ⟨g_p0, 0, none⟩))), (2, (iv p2)), (4, (pt g3258)), (7, (iv x3853)), (33, (iv p0.width)), (34, (iv x3853)), (39, (.bool (p2 == 0)))] [] (fun fb => by kernel_rfl) rfl trivial ?_
      refine WL.setB 39 h3998 rfl ?_
      refine seg 25 [.v (iv p0.height)] [0, 2, 4, 7, 33, 34, 53, 61] [(0, (.pointer (some ⟨g_p0, 0, none⟩))), (2, (iv p2)), (4, (pt g3258)), (7, (iv x3853)), (33, (iv p0.width)), (34, (iv x3853)), (53, (.bool false)), (61, (.bool (p2 == (w64 (p0.height - 1)))))] [.cell ⟨g_p0, 2, none⟩ (iv p0.height)] (fun fb => by kernel_rfl) rfl ⟨blk_cell (hS4131.rd 0).1 2 rfl, trivial⟩ ?_
      refine WL.setB 61 h4109 rfl ?_
      refine seg 39 [] [0, 2, 4, 33, 34, 75] [(0, (.pointer (some ⟨g_p0, 0, none⟩))), (2, (iv p2)), (4, (pt g3258)), (33, (iv p0.width)), (34, (iv x3853)), (75, (.bool false))] [] (fun fb => by kernel_rfl) rfl trivial ?_
      refine WL.done rfl ?_
      injection hx3997 with hx3997
      exact WX.to Kx3996 false [0, 2, 4, 33, 34, 75] rfl ⟨(hS4131.subR [0, 1, 2, 3, 4, 5, 6, 7]).sub [0] (by decide), hx3997.symm⟩
     refine seg 3 [] [0, 2, 4, 7, 33, 34, 39] [(0, (.pointer (some ⟨g_p0, 0, none⟩))), (2, (iv p2)), (4, (pt g3258)), (7, (iv x3853)), (33, (iv p0.width)), (34, (iv x3853)), (39, (.bool (p2 == 0)))] [] (fun fb => by kernel_rfl) rfl trivial ?_
     refine WL.setB 39 h3998 rfl ?_
     refine seg 25 [.v (iv p0.height)] [0, 2, 4, 7, 33, 34, 53, 61] [(0, (.pointer (some ⟨g_p0, 0, none⟩))), (2, (iv p2)), (4, (pt g3258)), (7, (iv x3853)), (33, (iv p0.width)), (34, (iv x3853)), (53, (.bool false)), (61, (.bool (p2 == (w64 (p0.height - 1)))))] [.cell ⟨g_p0, 2, none⟩ (iv p0.height)] (fun fb => by kernel_rfl) rfl ⟨blk_cell (hS4131.rd 0).1 2 rfl, trivial⟩ ?_
     refine WL.setB 61 h4109 rfl ?_
     refine seg 39 [] [0, 2, 4, 33, 34, 75] [(0, (.pointer (some ⟨g_p0, 0, none⟩))), (2, (iv p2)), (4, (pt g3258)), (33, (iv p0.width)), (34, (iv x3853)), (75, (.bool false))] [] (fun fb => by kernel_rfl) rfl trivial ?_
     refine WL.done rfl ?_
     injection hx3997 with hx3997
     exact WX.to Kx3996 false [0, 2, 4, 33, 34, 75] rfl ⟨(hS4131.subR [0, 1, 2, 3, 4, 5, 6, 7]).sub [0] (by decide), hx3997.symm⟩
    rintro y4135 w4132 ⟨hS4133, hq4134⟩
    subst hq4134
    refine WX.next ?_
    rcases br_some hl3859 with ⟨h4136, hl3859⟩ | ⟨h4136, hl3859⟩
    ·refine WC.condT2 (fun fb => by kernel_rfl) h4136 ?_
     refine WC.seq ?_
     refine WC.region ?_
     refine seg 1 [] [6] [(6, (.bool false))] [] (fun fb => by kernel_rfl) rfl trivial ?_
     refine WL.done rfl ?_
     refine WX.next ?_
     refine WC.ret ?_
     injection hl3859 with hl3859
     subst hl3859
     injection hf with hf
     subst hf
     exact WX.blockR (WX.thenR (WX.thenR (WX.blockR (WX.thenR (WX.ret_ [] (.bool false) [] (fun fb => by kernel_rfl) trivial ⟨_, rfl, rfl, hS4133.keep⟩)))))
    refine WC.condF2 (fun fb => by kernel_rfl) h4136 ?_
    refine WC.skip ?_
    refine WX.blockN (WX.next ?_)
    refine WC.region ?_
    refine seg 2 [] [0, 2, 4, 33, 34] [(0, (.pointer (some ⟨g_p0, 0, none⟩))), (2, (iv p2)), (4, (pt g3258)), (33, (iv p0.width)), (34, (iv (w64 (x3853 + 1))))] [] (fun fb => by kernel_rfl) rfl trivial ?_
    refine WL.done rfl ?_
    exact WX.again k3856 (Nat.lt_succ_self _) (w64 (x3853 + 1)) [0, 2, 4, 33, 34] rfl ⟨(hS4133.subR [0, 1, 2, 3, 4, 5, 6, 7]).sub [0] (by decide), hl3859⟩
   refine WC.condF2 (fun fb => by kernel_rfl) h3860 ?_
   refine WC.exit ?_
   injection hl3859 with hl3859
   exact WX.thenX (WX.thenX (WX.blockHere (WX.to Kx3854 () [] rfl ⟨(hS3858.subR [0, 1, 2, 3, 4, 5, 6, 7]).sub [] (by decide), hl3859.symm⟩)))
 rintro y4140 w4137 ⟨hS4138, hq4139⟩
 subst hq4139
 have hf := sum_inr hf
 refine WX.next ?_
 refine WC.seq ?_
 refine WC.region ?_
 refine seg 1 [] [6] [(6, (.bool true))] [] (fun fb => by kernel_rfl) rfl trivial ?_
 refine WL.done rfl ?_
 refine WX.next ?_
 refine WC.ret ?_
 injection hf with hf
 subst hf
 exact WX.ret_ [] (.bool true) [] (fun fb => by kernel_rfl) trivial ⟨_, rfl, rfl, hS4138.keep⟩
end Gp
