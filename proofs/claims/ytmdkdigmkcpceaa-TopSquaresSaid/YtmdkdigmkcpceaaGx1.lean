/- Walks: each function of the program computes its plain function. -/
import Derived.Test.YtmdkdigmkcpceaaGx0
set_option linter.unusedVariables false
set_option linter.unusedSimpArgs false
set_option maxHeartbeats 4000000
namespace Gp
open Go Gw Go.Proofs
theorem rows_All_calls (k : Nat) (p0 : List Tile) (p1 : Int) (A_p0 : Option Addr) (c_p0 : Nat) (r : (List Row)) (w : World) (hR0 : RO NoS w (rowR enc_Tile A_p0 c_p0 p0)) (hf : rows_All k p0 p1 = some r) :
    CallsR Try.prog 67 #[(.slice A_p0 p0.length c_p0), (.int .i64 p1)] w (fun v w' => ∃ (A1_ : Option Addr), ∃ (c1_ : Nat), ∃ (h1_ : Nat → HF), v = (.slice A1_ r.length c1_) ∧ St NoS w w' [] [rowO 88 encN_Row A1_ c1_ (tag h1_ r), poolO [nestO subN_Row h1_ r]]) := by
  have hS : St NoS w w [rowR enc_Tile A_p0 c_p0 p0] [] := St.init (ro_cons hR0 (ro_nil _ _))
  refine enter 14 Try.func67 rfl Try.ntmps67 rfl ?_
  unfold rows_All at hf
  refine WC.seq ?_
  refine WC.region ?_
  refine WL.new hS 2 [] (fun g => (.pointer (some ⟨g, 0, none⟩))) (.cells #[(.slice A_p0 p0.length c_p0)] 22 (0, 0)) [] (fun fb g => by kernel_rfl) trivial (fun g1892 w1893 hS1894 => ?_)
  refine ⟨trivial, ?_⟩
  refine WL.new hS1894 3 [] (fun g => (.pointer (some ⟨g, 0, none⟩))) (.cells #[(.int .i64 p1)] 3 (0, 0)) [] (fun fb g => by kernel_rfl) trivial (fun g1896 w1897 hS1898 => ?_)
  refine ⟨trivial, ?_⟩
  refine seg 3 [] [2, 3] [(2, (.pointer (some ⟨g1892, 0, none⟩))), (3, (.pointer (some ⟨g1896, 0, none⟩)))] [] (fun fb => by kernel_rfl) rfl trivial ?_
  refine WL.done rfl ?_
  refine WX.next ?_
  refine WC.seq ?_
  refine WC.region ?_
  refine WL.new hS1898 5 [] (fun g => (.pointer (some ⟨g, 0, none⟩))) (.cells #[(.slice none 0 0)] 82 (0, 0)) [] (fun fb g => by kernel_rfl) trivial (fun g1900 w1901 hS1902 => ?_)
  refine ⟨trivial, ?_⟩
  refine WL.done rfl ?_
  refine WX.next ?_
  refine WC.seq ?_
  refine WC.region ?_
  refine seg 1 [.v (.int .i64 p1)] [2, 3, 5, 8] [(2, (.pointer (some ⟨g1892, 0, none⟩))), (3, (.pointer (some ⟨g1896, 0, none⟩))), (5, (.pointer (some ⟨g1900, 0, none⟩))), (8, (.int .i64 p1))] [.cell ⟨g1896, 0, none⟩ (.int .i64 p1)] (fun fb => by kernel_rfl) rfl ⟨hS1902.cell 1 rfl 0 rfl, trivial⟩ ?_
  obtain ⟨h1904, hf⟩ := as_some hf
  refine WL.make hS1902 (e := encInt) (T := 3) (tS := 36) (z := (.int .i64 0)) (bytes := 8) (d := 9) (0 : Int) p1 (fun fb => by kernel_rfl) (by kernel_rfl) (by kernel_rfl) rfl (by decide) h1904 (by decide) (fun g1905 w1906 hS1907 => ?_)
  refine ⟨trivial, ?_⟩
  refine WL.new hS1907 6 [] (fun g => (.pointer (some ⟨g, 0, none⟩))) (.cells #[(.slice none 0 0)] 36 (0, 0)) [] (fun fb g => by kernel_rfl) trivial (fun g1908 w1909 hS1910 => ?_)
  refine ⟨trivial, ?_⟩
  refine WL.store hS1910 0 rfl [(0, (.slice (some ⟨g1905, 0, none⟩) (List.replicate p1.toNat (0 : Int)).length p1.toNat))] #[(.slice (some ⟨g1905, 0, none⟩) (List.replicate p1.toNat (0 : Int)).length p1.toNat)] (fun fb => by kernel_rfl) (by kernel_rfl) rfl [1, 2, 3, 4] (by decide) (by decide) (fun w1912 hS1913 => ?_)
  refine ⟨trivial, ?_⟩
  refine WL.done rfl ?_
  refine WX.next ?_
  refine WC.seq ?_
  refine WC.region ?_
  refine WL.new hS1913 7 [] (fun g => (.pointer (some ⟨g, 0, none⟩))) (.cells #[.nilFunc] 115 (0, 0)) [] (fun fb g => by kernel_rfl) trivial (fun g1914 w1915 hS1916 => ?_)
  refine ⟨trivial, ?_⟩
  refine WL.done rfl ?_
  refine WX.next ?_
  refine WC.seq ?_
  refine WC.region ?_
  refine seg 1 [] [5, 7, 10] [(5, (.pointer (some ⟨g1900, 0, none⟩))), (7, (.pointer (some ⟨g1914, 0, none⟩))), (10, (.func (.func 82) #[] #[(.pointer (some ⟨g1896, 0, none⟩)), (.pointer (some ⟨g1900, 0, none⟩)), (.pointer (some ⟨g1892, 0, none⟩)), (.pointer (some ⟨g1908, 0, none⟩)), (.pointer (some ⟨g1914, 0, none⟩))]))] [] (fun fb => by kernel_rfl) rfl trivial ?_
  refine WL.store hS1916 0 rfl [(0, (.func (.func 82) #[] #[(.pointer (some ⟨g1896, 0, none⟩)), (.pointer (some ⟨g1900, 0, none⟩)), (.pointer (some ⟨g1892, 0, none⟩)), (.pointer (some ⟨g1908, 0, none⟩)), (.pointer (some ⟨g1914, 0, none⟩))]))] #[(.func (.func 82) #[] #[(.pointer (some ⟨g1896, 0, none⟩)), (.pointer (some ⟨g1900, 0, none⟩)), (.pointer (some ⟨g1892, 0, none⟩)), (.pointer (some ⟨g1908, 0, none⟩)), (.pointer (some ⟨g1914, 0, none⟩))])] (fun fb => by kernel_rfl) (by kernel_rfl) rfl [1, 2, 3, 4, 5] (by decide) (by decide) (fun w1918 hS1919 => ?_)
  refine ⟨trivial, ?_⟩
  refine WL.done rfl ?_
  refine WX.next ?_
  refine WC.seq ?_
  refine WC.region ?_
  refine seg 1 [.v (.func (.func 82) #[] #[(.pointer (some ⟨g1896, 0, none⟩)), (.pointer (some ⟨g1900, 0, none⟩)), (.pointer (some ⟨g1892, 0, none⟩)), (.pointer (some ⟨g1908, 0, none⟩)), (.pointer (some ⟨g1914, 0, none⟩))])] [5, 11] [(5, (.pointer (some ⟨g1900, 0, none⟩))), (11, (.func (.func 82) #[] #[(.pointer (some ⟨g1896, 0, none⟩)), (.pointer (some ⟨g1900, 0, none⟩)), (.pointer (some ⟨g1892, 0, none⟩)), (.pointer (some ⟨g1908, 0, none⟩)), (.pointer (some ⟨g1914, 0, none⟩))]))] [.cell ⟨g1914, 0, none⟩ (.func (.func 82) #[] #[(.pointer (some ⟨g1896, 0, none⟩)), (.pointer (some ⟨g1900, 0, none⟩)), (.pointer (some ⟨g1892, 0, none⟩)), (.pointer (some ⟨g1908, 0, none⟩)), (.pointer (some ⟨g1914, 0, none⟩))])] (fun fb => by kernel_rfl) rfl ⟨hS1919.cell 0 rfl 0 rfl, trivial⟩ ?_
  have hS2570 : St NoS w w1918 [rowR enc_Tile A_p0 c_p0 p0] [rowO 88 encN_Row none 0 (tag h0 ([] : List Row)), blk g1914 (.cells #[(.func (.func 82) #[] #[(.pointer (some ⟨g1896, 0, none⟩)), (.pointer (some ⟨g1900, 0, none⟩)), (.pointer (some ⟨g1892, 0, none⟩)), (.pointer (some ⟨g1908, 0, none⟩)), (.pointer (some ⟨g1914, 0, none⟩))])] 115 (0, 0)), blk g1908 (.cells #[(.slice (some ⟨g1905, 0, none⟩) (List.replicate p1.toNat (0 : Int)).length p1.toNat)] 36 (0, 0)), rowO 3 encInt (some ⟨g1905, 0, none⟩) p1.toNat (List.replicate p1.toNat (0 : Int)), blk g1900 (.cells #[(.slice none 0 0)] 82 (0, 0)), blk g1896 (.cells #[(.int .i64 p1)] 3 (0, 0)), blk g1892 (.cells #[(.slice A_p0 p0.length c_p0)] 22 (0, 0))] := hS1919.nilrow 88 encN_Row
  have hS2571 := hS2570.poolNil subN_Row h0
  obtain ⟨t2572, ht2573, hf⟩ := bind_some hf
  refine WL.call (some 12) 82 #[(.int .i64 0), (.pointer (some ⟨g1896, 0, none⟩)), (.pointer (some ⟨g1900, 0, none⟩)), (.pointer (some ⟨g1892, 0, none⟩)), (.pointer (some ⟨g1908, 0, none⟩)), (.pointer (some ⟨g1914, 0, none⟩))] (fun fb => by kernel_rfl) (rows_All_1_calls _ 0 p1 ([] : List Row) p0 (List.replicate p1.toNat (0 : Int)) g1896 g1900 none 0 h0 g1892 A_p0 c_p0 g1908 (some ⟨g1905, 0, none⟩) p1.toNat g1914 t2572 _ (hS2571.owT [5, 1, 0, 3, 4] 6 (by decide)) (hS2571.owT [5, 1, 0, 3, 4] 7 (by decide)) (hS2571.rdT [5, 1, 0, 3, 4] 0) (hS2571.owT [5, 1, 0, 3, 4] 2 (by decide)) (hS2571.io [5, 1, 0, 3, 4] (by decide)) ht2573) (fun v w2574 hR2575 => ?_)
  obtain ⟨A2577, c2578, H2579, A2580, c2581, rfl, hk_⟩ := hR2575
  have hS2576 : St NoS w w2574 [rowR enc_Tile A_p0 c_p0 p0] [blk g1900 (.cells #[(.slice A2577 t2572.1.length c2578)] 82 (0, 0)), rowO 88 encN_Row A2577 c2578 (tag H2579 t2572.1), poolO [nestO subN_Row H2579 t2572.1], blk g1908 (.cells #[(.slice A2580 t2572.2.length c2581)] 36 (0, 0)), rowO 3 encInt A2580 c2581 t2572.2, blk g1914 (.cells #[(.func (.func 82) #[] #[(.pointer (some ⟨g1896, 0, none⟩)), (.pointer (some ⟨g1900, 0, none⟩)), (.pointer (some ⟨g1892, 0, none⟩)), (.pointer (some ⟨g1908, 0, none⟩)), (.pointer (some ⟨g1914, 0, none⟩))])] 115 (0, 0)), blk g1896 (.cells #[(.int .i64 p1)] 3 (0, 0)), blk g1892 (.cells #[(.slice A_p0 p0.length c_p0)] 22 (0, 0))] := hS2571.call hk_ [5, 1, 0, 3, 4] [2, 6, 7] (fun g hg => fpL_sel g hg) (by decide) (by decide)
  refine ⟨trivial, ?_⟩
  refine WL.done rfl ?_
  refine WX.next ?_
  refine WC.seq ?_
  refine WC.region ?_
  refine seg 2 [.v (.slice A2577 t2572.1.length c2578)] [4] [(4, (.slice A2577 t2572.1.length c2578))] [.cell ⟨g1900, 0, none⟩ (.slice A2577 t2572.1.length c2578)] (fun fb => by kernel_rfl) rfl ⟨hS2576.cell 0 rfl 0 rfl, trivial⟩ ?_
  refine WL.done rfl ?_
  refine WX.next ?_
  refine WC.ret ?_
  injection hf with hf
  subst hf
  exact WX.ret_ [] (.slice A2577 t2572.1.length c2578) [] (fun fb => by kernel_rfl) trivial ⟨_, rfl, A2577, c2578, H2579, rfl, (hS2576.sub [1, 2] (by decide)).noR⟩
theorem fill_begin_calls (k : Nat) (p0 : List Tile) (p1 : Int) (p2 : Int) (p3 : Edges) (A_p0 : Option Addr) (c_p0 : Nat) (A_p3_North : Option Addr) (c_p3_North : Nat) (A_p3_East : Option Addr) (c_p3_East : Nat) (A_p3_South : Option Addr) (c_p3_South : Nat) (A_p3_West : Option Addr) (c_p3_West : Nat) (r : (Option Job) × Int) (w : World) (hR0 : RO NoS w (rowR enc_Tile A_p0 c_p0 p0)) (hR1 : RO NoS w (rowR encInt A_p3_North c_p3_North p3.North)) (hR2 : RO NoS w (rowR encInt A_p3_East c_p3_East p3.East)) (hR3 : RO NoS w (rowR encInt A_p3_South c_p3_South p3.South)) (hR4 : RO NoS w (rowR encInt A_p3_West c_p3_West p3.West)) (hf : fill_begin k p0 p1 p2 p3 = some r) :
    CallsR Try.prog 54 #[(.slice A_p0 p0.length c_p0), (.int .i64 p1), (.int .i64 p2), (.agg #[(.slice A_p3_North p3.North.length c_p3_North), (.slice A_p3_East p3.East.length c_p3_East), (.slice A_p3_South p3.South.length c_p3_South), (.slice A_p3_West p3.West.length c_p3_West)])] w (fun v w' => ∃ (g1_ : Nat), ∃ (A2_ : Option Addr), ∃ (c2_ : Nat), ∃ (h2_ : Nat → HF), v = (.tuple #[(optP r.1 g1_), (.int .i64 r.2)]) ∧ optS r.1 (Keeps NoS w w') (fun y_ => St NoS w w' [] [blk g1_ (.cells #[(.slice A2_ y_.rows.length c2_), (.int .i64 y_.width), (.int .i64 y_.height), (.slice A_p3_North p3.North.length c_p3_North), (.slice A_p3_East p3.East.length c_p3_East), (.slice A_p3_South p3.South.length c_p3_South), (.slice A_p3_West p3.West.length c_p3_West)] 84 (0, 0)), rowO 88 encN_Row A2_ c2_ (tag h2_ y_.rows), poolO [nestO subN_Row h2_ y_.rows]])) := by
  have hS : St NoS w w [rowR enc_Tile A_p0 c_p0 p0, rowR encInt A_p3_North c_p3_North p3.North, rowR encInt A_p3_East c_p3_East p3.East, rowR encInt A_p3_South c_p3_South p3.South, rowR encInt A_p3_West c_p3_West p3.West] [] := St.init (ro_cons hR0 (ro_cons hR1 (ro_cons hR2 (ro_cons hR3 (ro_cons hR4 (ro_nil _ _))))))
  refine enter 76 Try.func54 rfl Try.ntmps54 rfl ?_
  unfold fill_begin at hf
  refine WC.seq ?_
  refine WC.region ?_
  refine WL.new hS 7 [] (fun g => (.pointer (some ⟨g, 0, none⟩))) (.cells #[(.slice A_p3_North p3.North.length c_p3_North), (.slice A_p3_East p3.East.length c_p3_East), (.slice A_p3_South p3.South.length c_p3_South), (.slice A_p3_West p3.West.length c_p3_West)] 57 (0, 0)) [] (fun fb g => by kernel_rfl) trivial (fun g2608 w2609 hS2610 => ?_)
  refine ⟨trivial, ?_⟩
  refine seg 3 [] [0, 1, 2, 7] [(0, (.slice A_p0 p0.length c_p0)), (1, (.int .i64 p1)), (2, (.int .i64 p2)), (7, (.pointer (some ⟨g2608, 0, none⟩)))] [] (fun fb => by kernel_rfl) rfl trivial ?_
  refine WL.done rfl ?_
  refine WX.next ?_
  refine WC.seq ?_
  refine WC.seq ?_
  refine WC.region ?_
  refine seg 1 [] [0, 1, 2, 7, 12] [(0, (.slice A_p0 p0.length c_p0)), (1, (.int .i64 p1)), (2, (.int .i64 p2)), (7, (.pointer (some ⟨g2608, 0, none⟩))), (12, (.slice A_p0 p0.length c_p0))] [] (fun fb => by kernel_rfl) rfl trivial ?_
  obtain ⟨t2612, ht2613, hf⟩ := bind_some hf
  refine WL.call (some 13) 38 #[(.slice A_p0 p0.length c_p0)] (fun fb => by kernel_rfl) (tile_Valid_calls _ p0 A_p0 c_p0 t2612 _ (hS2610.rd 0) ht2613) (fun v w2614 hR2615 => ?_)
  obtain ⟨rfl, hk_⟩ := hR2615
  have hS2616 := hS2610.keepN hk_
  refine ⟨trivial, ?_⟩
  refine seg 3 [] [0, 1, 2, 7, 14] [(0, (.slice A_p0 p0.length c_p0)), (1, (.int .i64 p1)), (2, (.int .i64 p2)), (7, (.pointer (some ⟨g2608, 0, none⟩))), (14, (.bool (!t2612)))] [] (fun fb => by kernel_rfl) rfl trivial ?_
  refine WL.done rfl ?_
  refine WX.next ?_
  rcases br_some hf with ⟨h2617, hf⟩ | ⟨h2617, hf⟩
  · refine WC.condT2 (fun fb => by kernel_rfl) h2617 ?_
    refine WC.seq ?_
    refine WC.region ?_
    refine seg 2 [] [8, 9] [(8, (.pointer none)), (9, (.int .i64 1))] [] (fun fb => by kernel_rfl) rfl trivial ?_
    refine WL.done rfl ?_
    refine WX.next ?_
    refine WC.ret ?_
    injection hf with hf
    subst hf
    exact WX.thenR (WX.ret_ [] (.tuple #[(.pointer none), (.int .i64 1)]) [] (fun fb => by kernel_rfl) trivial ⟨_, rfl, 0, none, 0, h0, rfl, hS2616.keep⟩)
  refine WC.condF2 (fun fb => by kernel_rfl) h2617 ?_
  refine WC.skip ?_
  refine WX.next ?_
  refine WC.seq ?_
  refine WC.seq ?_
  refine WC.region ?_
  refine seg 3 [] [0, 1, 2, 7, 17] [(0, (.slice A_p0 p0.length c_p0)), (1, (.int .i64 p1)), (2, (.int .i64 p2)), (7, (.pointer (some ⟨g2608, 0, none⟩))), (17, (.bool (decide (p1 < 1))))] [] (fun fb => by kernel_rfl) rfl trivial ?_
  refine WL.cutV (T := Bool) 6 (fun t => [(20, (.bool t)), (0, (.slice A_p0 p0.length c_p0)), (1, (.int .i64 p1)), (2, (.int .i64 p2)), (7, (.pointer (some ⟨g2608, 0, none⟩)))]) (fun t => ((decide (p1 < 1)) || (decide (p1 > 8))) = t) (fun K => ?_) ?_
  ·
    rcases Bool.eq_false_or_eq_true (decide (p1 < 1)) with h2618 | h2618
    ·
      refine WL.setB 17 h2618 rfl ?_
      refine seg 6 [] [0, 1, 2, 7, 20] [(0, (.slice A_p0 p0.length c_p0)), (1, (.int .i64 p1)), (2, (.int .i64 p2)), (7, (.pointer (some ⟨g2608, 0, none⟩))), (20, (.bool true))] [] (fun fb => by kernel_rfl) rfl trivial ?_
      exact WL.toV K true [20, 0, 1, 2, 7] rfl (by first | (rw [h2618]; done) | (rw [h2618]; rfl))
    refine WL.setB 17 h2618 rfl ?_
    refine seg 6 [] [0, 1, 2, 7, 20] [(0, (.slice A_p0 p0.length c_p0)), (1, (.int .i64 p1)), (2, (.int .i64 p2)), (7, (.pointer (some ⟨g2608, 0, none⟩))), (20, (.bool (decide (p1 > 8))))] [] (fun fb => by kernel_rfl) rfl trivial ?_
    exact WL.toV K (decide (p1 > 8)) [20, 0, 1, 2, 7] rfl (by first | (rw [h2618]; done) | (rw [h2618]; rfl))
  rintro b2619 rfl
  refine seg 7 [] [0, 1, 2, 7, 21] [(0, (.slice A_p0 p0.length c_p0)), (1, (.int .i64 p1)), (2, (.int .i64 p2)), (7, (.pointer (some ⟨g2608, 0, none⟩))), (21, (.bool ((decide (p1 < 1)) || (decide (p1 > 8)))))] [] (fun fb => by kernel_rfl) rfl trivial ?_
  refine WL.cutV (T := Bool) 10 (fun t => [(24, (.bool t)), (0, (.slice A_p0 p0.length c_p0)), (1, (.int .i64 p1)), (2, (.int .i64 p2)), (7, (.pointer (some ⟨g2608, 0, none⟩)))]) (fun t => (((decide (p1 < 1)) || (decide (p1 > 8))) || (decide (p2 < 1))) = t) (fun K => ?_) ?_
  ·
    rcases Bool.eq_false_or_eq_true ((decide (p1 < 1)) || (decide (p1 > 8))) with h2620 | h2620
    ·
      refine WL.setB 21 h2620 rfl ?_
      refine seg 10 [] [0, 1, 2, 7, 24] [(0, (.slice A_p0 p0.length c_p0)), (1, (.int .i64 p1)), (2, (.int .i64 p2)), (7, (.pointer (some ⟨g2608, 0, none⟩))), (24, (.bool true))] [] (fun fb => by kernel_rfl) rfl trivial ?_
      exact WL.toV K true [24, 0, 1, 2, 7] rfl (by first | (rw [h2620]; done) | (rw [h2620]; rfl))
    refine WL.setB 21 h2620 rfl ?_
    refine seg 10 [] [0, 1, 2, 7, 24] [(0, (.slice A_p0 p0.length c_p0)), (1, (.int .i64 p1)), (2, (.int .i64 p2)), (7, (.pointer (some ⟨g2608, 0, none⟩))), (24, (.bool (decide (p2 < 1))))] [] (fun fb => by kernel_rfl) rfl trivial ?_
    exact WL.toV K (decide (p2 < 1)) [24, 0, 1, 2, 7] rfl (by first | (rw [h2620]; done) | (rw [h2620]; rfl))
  rintro b2621 rfl
  refine seg 11 [] [0, 1, 2, 7, 25] [(0, (.slice A_p0 p0.length c_p0)), (1, (.int .i64 p1)), (2, (.int .i64 p2)), (7, (.pointer (some ⟨g2608, 0, none⟩))), (25, (.bool (((decide (p1 < 1)) || (decide (p1 > 8))) || (decide (p2 < 1)))))] [] (fun fb => by kernel_rfl) rfl trivial ?_
  refine WL.cutV (T := Bool) 14 (fun t => [(28, (.bool t)), (0, (.slice A_p0 p0.length c_p0)), (1, (.int .i64 p1)), (2, (.int .i64 p2)), (7, (.pointer (some ⟨g2608, 0, none⟩)))]) (fun t => ((((decide (p1 < 1)) || (decide (p1 > 8))) || (decide (p2 < 1))) || (decide (p2 > 60))) = t) (fun K => ?_) ?_
  ·
    rcases Bool.eq_false_or_eq_true (((decide (p1 < 1)) || (decide (p1 > 8))) || (decide (p2 < 1))) with h2622 | h2622
    ·
      refine WL.setB 25 h2622 rfl ?_
      refine seg 14 [] [0, 1, 2, 7, 28] [(0, (.slice A_p0 p0.length c_p0)), (1, (.int .i64 p1)), (2, (.int .i64 p2)), (7, (.pointer (some ⟨g2608, 0, none⟩))), (28, (.bool true))] [] (fun fb => by kernel_rfl) rfl trivial ?_
      exact WL.toV K true [28, 0, 1, 2, 7] rfl (by first | (rw [h2622]; done) | (rw [h2622]; rfl))
    refine WL.setB 25 h2622 rfl ?_
    refine seg 14 [] [0, 1, 2, 7, 28] [(0, (.slice A_p0 p0.length c_p0)), (1, (.int .i64 p1)), (2, (.int .i64 p2)), (7, (.pointer (some ⟨g2608, 0, none⟩))), (28, (.bool (decide (p2 > 60))))] [] (fun fb => by kernel_rfl) rfl trivial ?_
    exact WL.toV K (decide (p2 > 60)) [28, 0, 1, 2, 7] rfl (by first | (rw [h2622]; done) | (rw [h2622]; rfl))
  rintro b2623 rfl
  refine WL.done rfl ?_
  refine WX.next ?_
  rcases br_some hf with ⟨h2624, hf⟩ | ⟨h2624, hf⟩
  · refine WC.condT2 (fun fb => by kernel_rfl) h2624 ?_
    refine WC.seq ?_
    refine WC.region ?_
    refine seg 2 [] [8, 9] [(8, (.pointer none)), (9, (.int .i64 2))] [] (fun fb => by kernel_rfl) rfl trivial ?_
    refine WL.done rfl ?_
    refine WX.next ?_
    refine WC.ret ?_
    injection hf with hf
    subst hf
    exact WX.thenR (WX.ret_ [] (.tuple #[(.pointer none), (.int .i64 2)]) [] (fun fb => by kernel_rfl) trivial ⟨_, rfl, 0, none, 0, h0, rfl, hS2616.keep⟩)
  refine WC.condF2 (fun fb => by kernel_rfl) h2624 ?_
  refine WC.skip ?_
  refine WX.next ?_
  refine WC.seq ?_
  refine WC.seq ?_
  refine WC.region ?_
  refine seg 16 [.v (.slice A_p3_North p3.North.length c_p3_North), .v (.slice A_p3_South p3.South.length c_p3_South), .v (.slice A_p3_East p3.East.length c_p3_East), .v (.slice A_p3_West p3.West.length c_p3_West)] [0, 1, 2, 7, 32, 36, 40, 44] [(0, (.slice A_p0 p0.length c_p0)), (1, (.int .i64 p1)), (2, (.int .i64 p2)), (7, (.pointer (some ⟨g2608, 0, none⟩))), (32, (.agg #[(.slice A_p3_North p3.North.length c_p3_North), (.int .i64 p1)])), (36, (.agg #[(.slice A_p3_South p3.South.length c_p3_South), (.int .i64 p1)])), (40, (.agg #[(.slice A_p3_East p3.East.length c_p3_East), (.int .i64 p2)])), (44, (.agg #[(.slice A_p3_West p3.West.length c_p3_West), (.int .i64 p2)]))] [.cell ⟨g2608, 0, none⟩ (.slice A_p3_North p3.North.length c_p3_North), .cell ⟨g2608, 2, none⟩ (.slice A_p3_South p3.South.length c_p3_South), .cell ⟨g2608, 1, none⟩ (.slice A_p3_East p3.East.length c_p3_East), .cell ⟨g2608, 3, none⟩ (.slice A_p3_West p3.West.length c_p3_West)] (fun fb => by kernel_rfl) rfl ⟨hS2616.cell 0 rfl 0 rfl, hS2616.cell 0 rfl 2 rfl, hS2616.cell 0 rfl 1 rfl, hS2616.cell 0 rfl 3 rfl, trivial⟩ ?_
  refine WL.new hS2616 45 [] (fun g => (.slice (some ⟨g, 0, none⟩) 4 4)) (.cells #[(.slice A_p3_North p3.North.length c_p3_North), (.int .i64 p1), (.slice A_p3_South p3.South.length c_p3_South), (.int .i64 p1), (.slice A_p3_East p3.East.length c_p3_East), (.int .i64 p2), (.slice A_p3_West p3.West.length c_p3_West), (.int .i64 p2)] 108 (0, 0)) [] (fun fb g => by kernel_rfl) trivial (fun g2625 w2626 hS2627 => ?_)
  refine ⟨trivial, ?_⟩
  have hS2630 : St NoS w w2626 [nestO subN_S108 (hlN [(hd1 A_p3_North c_p3_North), (hd1 A_p3_South c_p3_South), (hd1 A_p3_East c_p3_East), (hd1 A_p3_West c_p3_West)]) [(S108.mk p3.North p1), (S108.mk p3.South p1), (S108.mk p3.East p2), (S108.mk p3.West p2)], rowR enc_Tile A_p0 c_p0 p0, rowR encInt A_p3_North c_p3_North p3.North, rowR encInt A_p3_East c_p3_East p3.East, rowR encInt A_p3_South c_p3_South p3.South, rowR encInt A_p3_West c_p3_West p3.West] [blk g2625 (.cells #[(.slice A_p3_North p3.North.length c_p3_North), (.int .i64 p1), (.slice A_p3_South p3.South.length c_p3_South), (.int .i64 p1), (.slice A_p3_East p3.East.length c_p3_East), (.int .i64 p2), (.slice A_p3_West p3.West.length c_p3_West), (.int .i64 p2)] 108 (0, 0)), blk g2608 (.cells #[(.slice A_p3_North p3.North.length c_p3_North), (.slice A_p3_East p3.East.length c_p3_East), (.slice A_p3_South p3.South.length c_p3_South), (.slice A_p3_West p3.West.length c_p3_West)] 57 (0, 0))] := hS2627.addR _ (nestO_cons (hS2627.rdL 1) (nestO_cons (hS2627.rdL 3) (nestO_cons (hS2627.rdL 2) (nestO_cons (hS2627.rdL 4) (nestO_nil _ _ _ _)))))
  have hS2629 : St NoS w w2626 [nestO subN_S108 (hlN [(hd1 A_p3_North c_p3_North), (hd1 A_p3_South c_p3_South), (hd1 A_p3_East c_p3_East), (hd1 A_p3_West c_p3_West)]) [(S108.mk p3.North p1), (S108.mk p3.South p1), (S108.mk p3.East p2), (S108.mk p3.West p2)], rowR enc_Tile A_p0 c_p0 p0, rowR encInt A_p3_North c_p3_North p3.North, rowR encInt A_p3_East c_p3_East p3.East, rowR encInt A_p3_South c_p3_South p3.South, rowR encInt A_p3_West c_p3_West p3.West] [rowO 108 encN_S108 (some ⟨g2625, 0, none⟩) 4 (tag (hlN [(hd1 A_p3_North c_p3_North), (hd1 A_p3_South c_p3_South), (hd1 A_p3_East c_p3_East), (hd1 A_p3_West c_p3_West)]) [(S108.mk p3.North p1), (S108.mk p3.South p1), (S108.mk p3.East p2), (S108.mk p3.West p2)]), blk g2608 (.cells #[(.slice A_p3_North p3.North.length c_p3_North), (.slice A_p3_East p3.East.length c_p3_East), (.slice A_p3_South p3.South.length c_p3_South), (.slice A_p3_West p3.West.length c_p3_West)] 57 (0, 0))] := hS2630.map1 0 _ (fun h => rowO.ofBlk h rfl (Nat.le_of_ble_eq_true (by kernel_rfl))) (fun _ h => by obtain ⟨_, h1, h2⟩ := h; injection h1 with h1; subst h1; exact h2) [1] (by decide) (by decide)
  refine seg 19 [] [0, 1, 2, 7, 45, 46, 47] [(0, (.slice A_p0 p0.length c_p0)), (1, (.int .i64 p1)), (2, (.int .i64 p2)), (7, (.pointer (some ⟨g2608, 0, none⟩))), (45, (.slice (some ⟨g2625, 0, none⟩) [(S108.mk p3.North p1), (S108.mk p3.South p1), (S108.mk p3.East p2), (S108.mk p3.West p2)].length 4)), (46, (.int .i64 ([(S108.mk p3.North p1), (S108.mk p3.South p1), (S108.mk p3.East p2), (S108.mk p3.West p2)].length : Int))), (47, (.int .i64 0))] [] (fun fb => by kernel_rfl) rfl trivial ?_
  refine WL.done rfl ?_
  refine WX.next ?_
  obtain ⟨x2655, hx2656, hf⟩ := bind_some hf
  refine WC.cutN (T := Unit) (fun t => [(0, (.slice A_p0 p0.length c_p0)), (1, (.int .i64 p1)), (2, (.int .i64 p2)), (7, (.pointer (some ⟨g2608, 0, none⟩)))]) (fun t w1 => St NoS w w1 [nestO subN_S108 (hlN [(hd1 A_p3_North c_p3_North), (hd1 A_p3_South c_p3_South), (hd1 A_p3_East c_p3_East), (hd1 A_p3_West c_p3_West)]) [(S108.mk p3.North p1), (S108.mk p3.South p1), (S108.mk p3.East p2), (S108.mk p3.West p2)], rowR enc_Tile A_p0 c_p0 p0, rowR encInt A_p3_North c_p3_North p3.North, rowR encInt A_p3_East c_p3_East p3.East, rowR encInt A_p3_South c_p3_South p3.South, rowR encInt A_p3_West c_p3_West p3.West] [blk g2608 (.cells #[(.slice A_p3_North p3.North.length c_p3_North), (.slice A_p3_East p3.East.length c_p3_East), (.slice A_p3_South p3.South.length c_p3_South), (.slice A_p3_West p3.West.length c_p3_West)] 57 (0, 0))] ∧ x2655 = .inr t) (fun Kx2655 => ?_) ?_
  ·
    refine WC.block ?_
    refine WC.loop (T := Int) (fun t => [(0, (.slice A_p0 p0.length c_p0)), (1, (.int .i64 p1)), (2, (.int .i64 p2)), (7, (.pointer (some ⟨g2608, 0, none⟩))), (45, (.slice (some ⟨g2625, 0, none⟩) [(S108.mk p3.North p1), (S108.mk p3.South p1), (S108.mk p3.East p2), (S108.mk p3.West p2)].length 4)), (46, (.int .i64 ([(S108.mk p3.North p1), (S108.mk p3.South p1), (S108.mk p3.East p2), (S108.mk p3.West p2)].length : Int))), (47, (.int .i64 t))]) (fun n t w1 => St NoS w w1 [nestO subN_S108 (hlN [(hd1 A_p3_North c_p3_North), (hd1 A_p3_South c_p3_South), (hd1 A_p3_East c_p3_East), (hd1 A_p3_West c_p3_West)]) [(S108.mk p3.North p1), (S108.mk p3.South p1), (S108.mk p3.East p2), (S108.mk p3.West p2)], rowR enc_Tile A_p0 c_p0 p0, rowR encInt A_p3_North c_p3_North p3.North, rowR encInt A_p3_East c_p3_East p3.East, rowR encInt A_p3_South c_p3_South p3.South, rowR encInt A_p3_West c_p3_West p3.West] [blk g2608 (.cells #[(.slice A_p3_North p3.North.length c_p3_North), (.slice A_p3_East p3.East.length c_p3_East), (.slice A_p3_South p3.South.length c_p3_South), (.slice A_p3_West p3.West.length c_p3_West)] 57 (0, 0)), rowO 108 encN_S108 (some ⟨g2625, 0, none⟩) 4 (tag (hlN [(hd1 A_p3_North c_p3_North), (hd1 A_p3_South c_p3_South), (hd1 A_p3_East c_p3_East), (hd1 A_p3_West c_p3_West)]) [(S108.mk p3.North p1), (S108.mk p3.South p1), (S108.mk p3.East p2), (S108.mk p3.West p2)])] ∧ fill_begin.l0 n t p1 p2 p3 = some x2655) k 0 [0, 1, 2, 7, 45, 46, 47] rfl ⟨(hS2629.subR [0, 1, 2, 3, 4, 5]).sub [1, 0] (by decide), hx2656⟩ ?_
    rintro k2657 x2654 w2658 ⟨hS2659, hl2660⟩
    cases k2657 with
    | zero => rw [fill_begin.l0] at hl2660; cases hl2660
    | succ k2657 =>
      rw [fill_begin.l0] at hl2660
      refine WC.seq ?_
      refine WC.region ?_
      refine seg 1 [] [0, 1, 2, 7, 45, 46, 47, 48] [(0, (.slice A_p0 p0.length c_p0)), (1, (.int .i64 p1)), (2, (.int .i64 p2)), (7, (.pointer (some ⟨g2608, 0, none⟩))), (45, (.slice (some ⟨g2625, 0, none⟩) [(S108.mk p3.North p1), (S108.mk p3.South p1), (S108.mk p3.East p2), (S108.mk p3.West p2)].length 4)), (46, (.int .i64 ([(S108.mk p3.North p1), (S108.mk p3.South p1), (S108.mk p3.East p2), (S108.mk p3.West p2)].length : Int))), (47, (.int .i64 x2654)), (48, (.bool (decide (x2654 < ([(S108.mk p3.North p1), (S108.mk p3.South p1), (S108.mk p3.East p2), (S108.mk p3.West p2)].length : Int)))))] [] (fun fb => by kernel_rfl) rfl trivial ?_
      refine WL.done rfl ?_
      refine WX.next ?_
      refine WC.seq ?_
      rcases br_some hl2660 with ⟨h2661, hl2660⟩ | ⟨h2661, hl2660⟩
      · refine WC.condT2 (fun fb => by kernel_rfl) h2661 ?_
        refine WC.skip ?_
        refine WX.next ?_
        refine WC.seq ?_
        refine WC.block ?_
        refine WC.seq ?_
        refine WC.region ?_
        obtain ⟨h2662, hl2660⟩ := as_some hl2660
        refine seg 2 [.v (.slice (((hlN [(hd1 A_p3_North c_p3_North), (hd1 A_p3_South c_p3_South), (hd1 A_p3_East c_p3_East), (hd1 A_p3_West c_p3_West)]) x2654.toNat 0).1) ((rdD [(S108.mk p3.North p1), (S108.mk p3.South p1), (S108.mk p3.East p2), (S108.mk p3.West p2)] x2654 z_S108).side).length (((hlN [(hd1 A_p3_North c_p3_North), (hd1 A_p3_South c_p3_South), (hd1 A_p3_East c_p3_East), (hd1 A_p3_West c_p3_West)]) x2654.toNat 0).2)), .v (.int .i64 ((rdD [(S108.mk p3.North p1), (S108.mk p3.South p1), (S108.mk p3.East p2), (S108.mk p3.West p2)] x2654 z_S108).n))] [0, 1, 2, 7, 45, 46, 47, 50] [(0, (.slice A_p0 p0.length c_p0)), (1, (.int .i64 p1)), (2, (.int .i64 p2)), (7, (.pointer (some ⟨g2608, 0, none⟩))), (45, (.slice (some ⟨g2625, 0, none⟩) [(S108.mk p3.North p1), (S108.mk p3.South p1), (S108.mk p3.East p2), (S108.mk p3.West p2)].length 4)), (46, (.int .i64 ([(S108.mk p3.North p1), (S108.mk p3.South p1), (S108.mk p3.East p2), (S108.mk p3.West p2)].length : Int))), (47, (.int .i64 x2654)), (50, (.agg #[(.slice (((hlN [(hd1 A_p3_North c_p3_North), (hd1 A_p3_South c_p3_South), (hd1 A_p3_East c_p3_East), (hd1 A_p3_West c_p3_West)]) x2654.toNat 0).1) ((rdD [(S108.mk p3.North p1), (S108.mk p3.South p1), (S108.mk p3.East p2), (S108.mk p3.West p2)] x2654 z_S108).side).length (((hlN [(hd1 A_p3_North c_p3_North), (hd1 A_p3_South c_p3_South), (hd1 A_p3_East c_p3_East), (hd1 A_p3_West c_p3_West)]) x2654.toNat 0).2)), (.int .i64 ((rdD [(S108.mk p3.North p1), (S108.mk p3.South p1), (S108.mk p3.East p2), (S108.mk p3.West p2)] x2654 z_S108).n))]))] [.idx (some ⟨g2625, 0, none⟩) x2654 [(S108.mk p3.North p1), (S108.mk p3.South p1), (S108.mk p3.East p2), (S108.mk p3.West p2)].length, .cell ((adr (some ⟨g2625, 0, none⟩)).add ((x2654).toNat * 2)) (.slice (((hlN [(hd1 A_p3_North c_p3_North), (hd1 A_p3_South c_p3_South), (hd1 A_p3_East c_p3_East), (hd1 A_p3_West c_p3_West)]) x2654.toNat 0).1) ((rdD [(S108.mk p3.North p1), (S108.mk p3.South p1), (S108.mk p3.East p2), (S108.mk p3.West p2)] x2654 z_S108).side).length (((hlN [(hd1 A_p3_North c_p3_North), (hd1 A_p3_South c_p3_South), (hd1 A_p3_East c_p3_East), (hd1 A_p3_West c_p3_West)]) x2654.toNat 0).2)), .cell (((adr (some ⟨g2625, 0, none⟩)).add ((x2654).toNat * 2)).add 1) (.int .i64 ((rdD [(S108.mk p3.North p1), (S108.mk p3.South p1), (S108.mk p3.East p2), (S108.mk p3.West p2)] x2654 z_S108).n))] (fun fb => by kernel_rfl) rfl ⟨nrow_adr (rowO.rd (hS2659.own 1).1) h2662.1 h2662.2, nrow_cell (rowO.rd (hS2659.own 1).1) z_S108 h2662.1 h2662.2 0 rfl, nrow_cell (rowO.rd (hS2659.own 1).1) z_S108 h2662.1 h2662.2 1 rfl, trivial⟩ ?_
        refine WL.new hS2659 11 [] (fun g => (.pointer (some ⟨g, 0, none⟩))) (.cells #[(.slice none 0 0), (.int .i64 0)] 108 (0, 0)) [] (fun fb g => by kernel_rfl) trivial (fun g2663 w2664 hS2665 => ?_)
        refine ⟨trivial, ?_⟩
        refine WL.store hS2665 0 rfl [(0, (.slice (((hlN [(hd1 A_p3_North c_p3_North), (hd1 A_p3_South c_p3_South), (hd1 A_p3_East c_p3_East), (hd1 A_p3_West c_p3_West)]) x2654.toNat 0).1) ((rdD [(S108.mk p3.North p1), (S108.mk p3.South p1), (S108.mk p3.East p2), (S108.mk p3.West p2)] x2654 z_S108).side).length (((hlN [(hd1 A_p3_North c_p3_North), (hd1 A_p3_South c_p3_South), (hd1 A_p3_East c_p3_East), (hd1 A_p3_West c_p3_West)]) x2654.toNat 0).2))), (1, (.int .i64 ((rdD [(S108.mk p3.North p1), (S108.mk p3.South p1), (S108.mk p3.East p2), (S108.mk p3.West p2)] x2654 z_S108).n)))] #[(.slice (((hlN [(hd1 A_p3_North c_p3_North), (hd1 A_p3_South c_p3_South), (hd1 A_p3_East c_p3_East), (hd1 A_p3_West c_p3_West)]) x2654.toNat 0).1) ((rdD [(S108.mk p3.North p1), (S108.mk p3.South p1), (S108.mk p3.East p2), (S108.mk p3.West p2)] x2654 z_S108).side).length (((hlN [(hd1 A_p3_North c_p3_North), (hd1 A_p3_South c_p3_South), (hd1 A_p3_East c_p3_East), (hd1 A_p3_West c_p3_West)]) x2654.toNat 0).2)), (.int .i64 ((rdD [(S108.mk p3.North p1), (S108.mk p3.South p1), (S108.mk p3.East p2), (S108.mk p3.West p2)] x2654 z_S108).n))] (fun fb => by kernel_rfl) (by kernel_rfl) rfl [1, 2] (by decide) (by decide) (fun w2667 hS2668 => ?_)
        refine ⟨trivial, ?_⟩
        refine WL.done rfl ?_
        refine WX.next ?_
        refine WC.seq ?_
        refine WC.region ?_
        refine seg 5 [.v (.slice (((hlN [(hd1 A_p3_North c_p3_North), (hd1 A_p3_South c_p3_South), (hd1 A_p3_East c_p3_East), (hd1 A_p3_West c_p3_West)]) x2654.toNat 0).1) ((rdD [(S108.mk p3.North p1), (S108.mk p3.South p1), (S108.mk p3.East p2), (S108.mk p3.West p2)] x2654 z_S108).side).length (((hlN [(hd1 A_p3_North c_p3_North), (hd1 A_p3_South c_p3_South), (hd1 A_p3_East c_p3_East), (hd1 A_p3_West c_p3_West)]) x2654.toNat 0).2))] [0, 1, 2, 7, 11, 45, 46, 47, 55] [(0, (.slice A_p0 p0.length c_p0)), (1, (.int .i64 p1)), (2, (.int .i64 p2)), (7, (.pointer (some ⟨g2608, 0, none⟩))), (11, (.pointer (some ⟨g2663, 0, none⟩))), (45, (.slice (some ⟨g2625, 0, none⟩) [(S108.mk p3.North p1), (S108.mk p3.South p1), (S108.mk p3.East p2), (S108.mk p3.West p2)].length 4)), (46, (.int .i64 ([(S108.mk p3.North p1), (S108.mk p3.South p1), (S108.mk p3.East p2), (S108.mk p3.West p2)].length : Int))), (47, (.int .i64 x2654)), (55, (.bool ((((rdD [(S108.mk p3.North p1), (S108.mk p3.South p1), (S108.mk p3.East p2), (S108.mk p3.West p2)] x2654 z_S108).side).length : Int) != 0)))] [.cell ⟨g2663, 0, none⟩ (.slice (((hlN [(hd1 A_p3_North c_p3_North), (hd1 A_p3_South c_p3_South), (hd1 A_p3_East c_p3_East), (hd1 A_p3_West c_p3_West)]) x2654.toNat 0).1) ((rdD [(S108.mk p3.North p1), (S108.mk p3.South p1), (S108.mk p3.East p2), (S108.mk p3.West p2)] x2654 z_S108).side).length (((hlN [(hd1 A_p3_North c_p3_North), (hd1 A_p3_South c_p3_South), (hd1 A_p3_East c_p3_East), (hd1 A_p3_West c_p3_West)]) x2654.toNat 0).2))] (fun fb => by kernel_rfl) rfl ⟨hS2668.cell 0 rfl 0 rfl, trivial⟩ ?_
        refine WL.cutV (T := Bool) 12 (fun t => [(62, (.bool t)), (0, (.slice A_p0 p0.length c_p0)), (1, (.int .i64 p1)), (2, (.int .i64 p2)), (7, (.pointer (some ⟨g2608, 0, none⟩))), (45, (.slice (some ⟨g2625, 0, none⟩) [(S108.mk p3.North p1), (S108.mk p3.South p1), (S108.mk p3.East p2), (S108.mk p3.West p2)].length 4)), (46, (.int .i64 ([(S108.mk p3.North p1), (S108.mk p3.South p1), (S108.mk p3.East p2), (S108.mk p3.West p2)].length : Int))), (47, (.int .i64 x2654))]) (fun t => (((((rdD [(S108.mk p3.North p1), (S108.mk p3.South p1), (S108.mk p3.East p2), (S108.mk p3.West p2)] x2654 z_S108).side).length : Int) != 0) && ((((rdD [(S108.mk p3.North p1), (S108.mk p3.South p1), (S108.mk p3.East p2), (S108.mk p3.West p2)] x2654 z_S108).side).length : Int) != ((rdD [(S108.mk p3.North p1), (S108.mk p3.South p1), (S108.mk p3.East p2), (S108.mk p3.West p2)] x2654 z_S108).n))) = t) (fun K => ?_) ?_
        ·
          rcases Bool.eq_false_or_eq_true ((((rdD [(S108.mk p3.North p1), (S108.mk p3.South p1), (S108.mk p3.East p2), (S108.mk p3.West p2)] x2654 z_S108).side).length : Int) != 0) with h2669 | h2669
          ·
            refine WL.setB 55 h2669 rfl ?_
            refine seg 12 [.v (.slice (((hlN [(hd1 A_p3_North c_p3_North), (hd1 A_p3_South c_p3_South), (hd1 A_p3_East c_p3_East), (hd1 A_p3_West c_p3_West)]) x2654.toNat 0).1) ((rdD [(S108.mk p3.North p1), (S108.mk p3.South p1), (S108.mk p3.East p2), (S108.mk p3.West p2)] x2654 z_S108).side).length (((hlN [(hd1 A_p3_North c_p3_North), (hd1 A_p3_South c_p3_South), (hd1 A_p3_East c_p3_East), (hd1 A_p3_West c_p3_West)]) x2654.toNat 0).2)), .v (.int .i64 ((rdD [(S108.mk p3.North p1), (S108.mk p3.South p1), (S108.mk p3.East p2), (S108.mk p3.West p2)] x2654 z_S108).n))] [0, 1, 2, 7, 45, 46, 47, 62] [(0, (.slice A_p0 p0.length c_p0)), (1, (.int .i64 p1)), (2, (.int .i64 p2)), (7, (.pointer (some ⟨g2608, 0, none⟩))), (45, (.slice (some ⟨g2625, 0, none⟩) [(S108.mk p3.North p1), (S108.mk p3.South p1), (S108.mk p3.East p2), (S108.mk p3.West p2)].length 4)), (46, (.int .i64 ([(S108.mk p3.North p1), (S108.mk p3.South p1), (S108.mk p3.East p2), (S108.mk p3.West p2)].length : Int))), (47, (.int .i64 x2654)), (62, (.bool ((((rdD [(S108.mk p3.North p1), (S108.mk p3.South p1), (S108.mk p3.East p2), (S108.mk p3.West p2)] x2654 z_S108).side).length : Int) != ((rdD [(S108.mk p3.North p1), (S108.mk p3.South p1), (S108.mk p3.East p2), (S108.mk p3.West p2)] x2654 z_S108).n))))] [.cell ⟨g2663, 0, none⟩ (.slice (((hlN [(hd1 A_p3_North c_p3_North), (hd1 A_p3_South c_p3_South), (hd1 A_p3_East c_p3_East), (hd1 A_p3_West c_p3_West)]) x2654.toNat 0).1) ((rdD [(S108.mk p3.North p1), (S108.mk p3.South p1), (S108.mk p3.East p2), (S108.mk p3.West p2)] x2654 z_S108).side).length (((hlN [(hd1 A_p3_North c_p3_North), (hd1 A_p3_South c_p3_South), (hd1 A_p3_East c_p3_East), (hd1 A_p3_West c_p3_West)]) x2654.toNat 0).2)), .cell ⟨g2663, 1, none⟩ (.int .i64 ((rdD [(S108.mk p3.North p1), (S108.mk p3.South p1), (S108.mk p3.East p2), (S108.mk p3.West p2)] x2654 z_S108).n))] (fun fb => by kernel_rfl) rfl ⟨hS2668.cell 0 rfl 0 rfl, hS2668.cell 0 rfl 1 rfl, trivial⟩ ?_
            exact WL.toV K ((((rdD [(S108.mk p3.North p1), (S108.mk p3.South p1), (S108.mk p3.East p2), (S108.mk p3.West p2)] x2654 z_S108).side).length : Int) != ((rdD [(S108.mk p3.North p1), (S108.mk p3.South p1), (S108.mk p3.East p2), (S108.mk p3.West p2)] x2654 z_S108).n)) [62, 0, 1, 2, 7, 45, 46, 47] rfl (by first | (rw [h2669]; done) | (rw [h2669]; rfl))
          refine WL.setB 55 h2669 rfl ?_
          refine seg 12 [] [0, 1, 2, 7, 45, 46, 47, 62] [(0, (.slice A_p0 p0.length c_p0)), (1, (.int .i64 p1)), (2, (.int .i64 p2)), (7, (.pointer (some ⟨g2608, 0, none⟩))), (45, (.slice (some ⟨g2625, 0, none⟩) [(S108.mk p3.North p1), (S108.mk p3.South p1), (S108.mk p3.East p2), (S108.mk p3.West p2)].length 4)), (46, (.int .i64 ([(S108.mk p3.North p1), (S108.mk p3.South p1), (S108.mk p3.East p2), (S108.mk p3.West p2)].length : Int))), (47, (.int .i64 x2654)), (62, (.bool false))] [] (fun fb => by kernel_rfl) rfl trivial ?_
          exact WL.toV K false [62, 0, 1, 2, 7, 45, 46, 47] rfl (by first | (rw [h2669]; done) | (rw [h2669]; rfl))
        rintro b2670 rfl
        refine WL.done rfl ?_
        refine WX.next ?_
        rcases br_some hl2660 with ⟨h2671, hl2660⟩ | ⟨h2671, hl2660⟩
        · refine WC.condT2 (fun fb => by kernel_rfl) h2671 ?_
          refine WC.seq ?_
          refine WC.region ?_
          refine seg 2 [] [8, 9] [(8, (.pointer none)), (9, (.int .i64 2))] [] (fun fb => by kernel_rfl) rfl trivial ?_
          refine WL.done rfl ?_
          refine WX.next ?_
          refine WC.ret ?_
          injection hl2660 with hl2660
          subst hl2660
          injection hf with hf
          subst hf
          exact WX.blockR (WX.thenR (WX.thenR (WX.blockR (WX.thenR (WX.ret_ [] (.tuple #[(.pointer none), (.int .i64 2)]) [] (fun fb => by kernel_rfl) trivial ⟨_, rfl, 0, none, 0, h0, rfl, hS2668.keep⟩)))))
        refine WC.condF2 (fun fb => by kernel_rfl) h2671 ?_
        refine WC.skip ?_
        refine WX.blockN (WX.next ?_)
        refine WC.region ?_
        refine seg 2 [] [0, 1, 2, 7, 45, 46, 47] [(0, (.slice A_p0 p0.length c_p0)), (1, (.int .i64 p1)), (2, (.int .i64 p2)), (7, (.pointer (some ⟨g2608, 0, none⟩))), (45, (.slice (some ⟨g2625, 0, none⟩) [(S108.mk p3.North p1), (S108.mk p3.South p1), (S108.mk p3.East p2), (S108.mk p3.West p2)].length 4)), (46, (.int .i64 ([(S108.mk p3.North p1), (S108.mk p3.South p1), (S108.mk p3.East p2), (S108.mk p3.West p2)].length : Int))), (47, (.int .i64 (w64 (x2654 + 1))))] [] (fun fb => by kernel_rfl) rfl trivial ?_
        refine WL.done rfl ?_
        exact WX.again k2657 (Nat.lt_succ_self _) (w64 (x2654 + 1)) [0, 1, 2, 7, 45, 46, 47] rfl ⟨(hS2668.subR [0, 1, 2, 3, 4, 5]).sub [1, 2] (by decide), hl2660⟩
      refine WC.condF2 (fun fb => by kernel_rfl) h2661 ?_
      refine WC.exit ?_
      injection hl2660 with hl2660
      exact WX.thenX (WX.thenX (WX.blockHere (WX.to Kx2655 () [0, 1, 2, 7] rfl ⟨(hS2659.subR [0, 1, 2, 3, 4, 5]).sub [0] (by decide), hl2660.symm⟩)))
  rintro y2675 w2672 ⟨hS2673, hq2674⟩
  subst hq2674
  have hf := sum_inr hf
  refine WX.next ?_
  refine WC.seq ?_
  refine WC.seq ?_
  refine WC.region ?_
  refine seg 2 [] [0, 1, 2, 7, 64, 65] [(0, (.slice A_p0 p0.length c_p0)), (1, (.int .i64 p1)), (2, (.int .i64 p2)), (7, (.pointer (some ⟨g2608, 0, none⟩))), (64, (.slice A_p0 p0.length c_p0)), (65, (.int .i64 p1))] [] (fun fb => by kernel_rfl) rfl trivial ?_
  obtain ⟨t2677, ht2678, hf⟩ := bind_some hf
  refine WL.call (some 66) 45 #[(.slice A_p0 p0.length c_p0), (.int .i64 p1)] (fun fb => by kernel_rfl) (rows_Few_calls _ p0 p1 A_p0 c_p0 t2677 _ (hS2673.rd 1) ht2678) (fun v w2679 hR2680 => ?_)
  obtain ⟨rfl, hk_⟩ := hR2680
  have hS2681 := hS2673.keepN hk_
  refine ⟨trivial, ?_⟩
  refine seg 4 [] [0, 1, 2, 7, 67] [(0, (.slice A_p0 p0.length c_p0)), (1, (.int .i64 p1)), (2, (.int .i64 p2)), (7, (.pointer (some ⟨g2608, 0, none⟩))), (67, (.bool (!t2677)))] [] (fun fb => by kernel_rfl) rfl trivial ?_
  refine WL.done rfl ?_
  refine WX.next ?_
  rcases br_some hf with ⟨h2682, hf⟩ | ⟨h2682, hf⟩
  · refine WC.condT2 (fun fb => by kernel_rfl) h2682 ?_
    refine WC.seq ?_
    refine WC.region ?_
    refine seg 2 [] [8, 9] [(8, (.pointer none)), (9, (.int .i64 4))] [] (fun fb => by kernel_rfl) rfl trivial ?_
    refine WL.done rfl ?_
    refine WX.next ?_
    refine WC.ret ?_
    injection hf with hf
    subst hf
    exact WX.thenR (WX.ret_ [] (.tuple #[(.pointer none), (.int .i64 4)]) [] (fun fb => by kernel_rfl) trivial ⟨_, rfl, 0, none, 0, h0, rfl, hS2681.keep⟩)
  refine WC.condF2 (fun fb => by kernel_rfl) h2682 ?_
  refine WC.skip ?_
  refine WX.next ?_
  refine WC.seq ?_
  refine WC.regionD ([(5, ⟨g2608, 0, none⟩, (.slice A_p3_North p3.North.length c_p3_North)), (5, ⟨g2608, 1, none⟩, (.slice A_p3_East p3.East.length c_p3_East)), (5, ⟨g2608, 2, none⟩, (.slice A_p3_South p3.South.length c_p3_South)), (5, ⟨g2608, 3, none⟩, (.slice A_p3_West p3.West.length c_p3_West))], [0, 1, 3, 4, 5, 6, 8, 9], [[], [], [0, 1], [], [], [], [0, 1, 2, 3, 4, 5], [0, 1, 2, 3, 4, 5, 6], [0, 1, 2, 3, 4, 5, 6, 7], [0, 1, 2, 3, 4, 5, 6, 7, 8]]) [[0, 1, 3, 4, 5, 2, 6, 7, 8, 9]] (by kernel_rfl) (by kernel_rfl) (NoPanic.seq (NoPanic.body)) ?_
  have hS2696 := hS2681.drew
  revert hS2696
  generalize World.drew w2679 = w2695
  intro hS2696
  refine ⟨⟨hS2696.cell 0 rfl 0 rfl, hS2696.cell 0 rfl 1 rfl, hS2696.cell 0 rfl 2 rfl, hS2696.cell 0 rfl 3 rfl, trivial⟩, forallC ?_ (forallN)⟩
  refine segF 5 [.v (.slice A_p3_North p3.North.length c_p3_North), .v (.slice A_p3_East p3.East.length c_p3_East), .v (.slice A_p3_South p3.South.length c_p3_South), .v (.slice A_p3_West p3.West.length c_p3_West)] [68, 69, 71, 72, 73] [(68, (.slice A_p0 p0.length c_p0)), (69, (.int .i64 p1)), (71, (.int .i64 p1)), (72, (.int .i64 p2)), (73, (.agg #[(.slice A_p3_North p3.North.length c_p3_North), (.slice A_p3_East p3.East.length c_p3_East), (.slice A_p3_South p3.South.length c_p3_South), (.slice A_p3_West p3.West.length c_p3_West)]))] [] [0, 1, 2, 3] [(5, ⟨g2608, 0, none⟩, (.slice A_p3_North p3.North.length c_p3_North)), (5, ⟨g2608, 1, none⟩, (.slice A_p3_East p3.East.length c_p3_East)), (5, ⟨g2608, 2, none⟩, (.slice A_p3_South p3.South.length c_p3_South)), (5, ⟨g2608, 3, none⟩, (.slice A_p3_West p3.West.length c_p3_West))] (fun fb => by kernel_rfl) rfl trivial rfl ?_
  obtain ⟨t2697, ht2698, hf⟩ := bind_some hf
  refine WL.call (some 70) 67 #[(.slice A_p0 p0.length c_p0), (.int .i64 p1)] (fun fb => by kernel_rfl) (rows_All_calls _ p0 p1 A_p0 c_p0 t2697 _ (hS2696.rd 1) ht2698) (fun v w2699 hR2700 => ?_)
  obtain ⟨A2702, c2703, H2704, rfl, hk_⟩ := hR2700
  have hS2701 : St NoS w w2699 [nestO subN_S108 (hlN [(hd1 A_p3_North c_p3_North), (hd1 A_p3_South c_p3_South), (hd1 A_p3_East c_p3_East), (hd1 A_p3_West c_p3_West)]) [(S108.mk p3.North p1), (S108.mk p3.South p1), (S108.mk p3.East p2), (S108.mk p3.West p2)], rowR enc_Tile A_p0 c_p0 p0, rowR encInt A_p3_North c_p3_North p3.North, rowR encInt A_p3_East c_p3_East p3.East, rowR encInt A_p3_South c_p3_South p3.South, rowR encInt A_p3_West c_p3_West p3.West] [rowO 88 encN_Row A2702 c2703 (tag H2704 t2697), poolO [nestO subN_Row H2704 t2697], blk g2608 (.cells #[(.slice A_p3_North p3.North.length c_p3_North), (.slice A_p3_East p3.East.length c_p3_East), (.slice A_p3_South p3.South.length c_p3_South), (.slice A_p3_West p3.West.length c_p3_West)] 57 (0, 0))] := hS2696.call hk_ [] [0] (fun g hg => hg.elim) (by simp) (by decide)
  refine ⟨⟨hS2701.cell 2 rfl 0 rfl, hS2701.cell 2 rfl 1 rfl, hS2701.cell 2 rfl 2 rfl, hS2701.cell 2 rfl 3 rfl, trivial⟩, ?_⟩
  refine seg 7 [] [74] [(74, (.agg #[(.slice A2702 t2697.length c2703), (.int .i64 p1), (.int .i64 p2), (.slice A_p3_North p3.North.length c_p3_North), (.slice A_p3_East p3.East.length c_p3_East), (.slice A_p3_South p3.South.length c_p3_South), (.slice A_p3_West p3.West.length c_p3_West)]))] [] (fun fb => by kernel_rfl) rfl trivial ?_
  refine WL.new hS2701 75 [] (fun g => (.pointer (some ⟨g, 0, none⟩))) (.cells #[(.slice A2702 t2697.length c2703), (.int .i64 p1), (.int .i64 p2), (.slice A_p3_North p3.North.length c_p3_North), (.slice A_p3_East p3.East.length c_p3_East), (.slice A_p3_South p3.South.length c_p3_South), (.slice A_p3_West p3.West.length c_p3_West)] 84 (0, 0)) [] (fun fb g => by kernel_rfl) trivial (fun g2705 w2706 hS2707 => ?_)
  refine ⟨trivial, ?_⟩
  refine seg 10 [] [8, 9] [(8, (.pointer (some ⟨g2705, 0, none⟩))), (9, (.int .i64 0))] [] (fun fb => by kernel_rfl) rfl trivial ?_
  refine WL.done rfl ?_
  refine WX.next ?_
  refine WC.ret ?_
  injection hf with hf
  subst hf
  exact WX.ret_ [] (.tuple #[(.pointer (some ⟨g2705, 0, none⟩)), (.int .i64 0)]) [] (fun fb => by kernel_rfl) trivial ⟨_, rfl, g2705, A2702, c2703, H2704, rfl, (hS2707.sub [0, 1, 2] (by decide)).noR⟩
theorem fill_at_calls (p0 : List Int) (p1 : Int) (p2 : Int) (A_p0 : Option Addr) (c_p0 : Nat) (r : Bool) (w : World) (hR0 : RO NoS w (rowR encInt A_p0 c_p0 p0)) (hf : fill_at p0 p1 p2 = some r) :
    CallsR Try.prog 68 #[(.slice A_p0 p0.length c_p0), (.int .i64 p1), (.int .i64 p2)] w (fun v w' => v = (.bool r) ∧ Keeps NoS w w') := by
  have hS : St NoS w w [rowR encInt A_p0 c_p0 p0] [] := St.init (ro_cons hR0 (ro_nil _ _))
  refine enter 18 Try.func68 rfl Try.ntmps68 rfl ?_
  unfold fill_at at hf
  refine WC.seq ?_
  refine WC.region ?_
  refine seg 1 [] [0, 1, 2] [(0, (.slice A_p0 p0.length c_p0)), (1, (.int .i64 p1)), (2, (.int .i64 p2))] [] (fun fb => by kernel_rfl) rfl trivial ?_
  refine WL.done rfl ?_
  refine WX.next ?_
  refine WC.seq ?_
  refine WC.region ?_
  refine seg 4 [] [0, 1, 2, 10] [(0, (.slice A_p0 p0.length c_p0)), (1, (.int .i64 p1)), (2, (.int .i64 p2)), (10, (.bool ((p0.length : Int) == 0)))] [] (fun fb => by kernel_rfl) rfl trivial ?_
  obtain ⟨b2811, hv2812, hf⟩ := bind_some hf
  refine WL.cutV (T := Unit) 11 (fun t => [(17, (.bool b2811))]) (fun t => True) (fun K => ?_) ?_
  ·
    rcases br_some hv2812 with ⟨h2813, hv2812⟩ | ⟨h2813, hv2812⟩
    ·
      refine WL.setB 10 h2813 rfl ?_
      refine seg 11 [] [17] [(17, (.bool true))] [] (fun fb => by kernel_rfl) rfl trivial ?_
      injection hv2812 with hv2812
      subst hv2812
      exact WL.toV K () [17] rfl trivial
    refine WL.setB 10 h2813 rfl ?_
    refine seg 6 [] [2, 10, 11, 12] [(2, (.int .i64 p2)), (10, (.bool false)), (11, (.slice A_p0 p0.length c_p0)), (12, (.int .i64 p1))] [] (fun fb => by kernel_rfl) rfl trivial ?_
    obtain ⟨h2814, hv2812⟩ := as_some hv2812
    refine seg 11 [.v (.int .i64 (rdD p0 p1 0))] [17] [(17, (.bool ((rdD p0 p1 0) == p2)))] [.idx A_p0 p1 p0.length, .cell ((adr A_p0).add ((p1).toNat * 1)) (.int .i64 (rdD p0 p1 0))] (fun fb => by kernel_rfl) rfl ⟨rowR.adr (hS.rd 0).1 h2814.1 h2814.2, rowR.cell (hS.rd 0).1 0 h2814.1 h2814.2 0 rfl, trivial⟩ ?_
    injection hv2812 with hv2812
    subst hv2812
    exact WL.toV K () [17] rfl trivial
  rintro _ _
  refine seg 12 [] [6] [(6, (.bool b2811))] [] (fun fb => by kernel_rfl) rfl trivial ?_
  refine WL.done rfl ?_
  refine WX.next ?_
  refine WC.ret ?_
  injection hf with hf
  subst hf
  exact WX.ret_ [] (.bool b2811) [] (fun fb => by kernel_rfl) trivial ⟨_, rfl, rfl, hS.keep⟩
theorem fill_job_allows_calls (k : Nat) (p0 : Job) (p1 : Row) (p2 : Int) (g_p0 : Nat) (A_p0_rows : Option Addr) (c_p0_rows : Nat) (H_p0_rows : Nat → HF) (A_p0_edges_North : Option Addr) (c_p0_edges_North : Nat) (A_p0_edges_East : Option Addr) (c_p0_edges_East : Nat) (A_p0_edges_South : Option Addr) (c_p0_edges_South : Nat) (A_p0_edges_West : Option Addr) (c_p0_edges_West : Nat) (A_p1_Cells : Option Addr) (c_p1_Cells : Nat) (r : Bool) (w : World) (hR0 : RO NoS w (blk g_p0 (.cells #[(.slice A_p0_rows p0.rows.length c_p0_rows), (.int .i64 p0.width), (.int .i64 p0.height), (.slice A_p0_edges_North p0.edges.North.length c_p0_edges_North), (.slice A_p0_edges_East p0.edges.East.length c_p0_edges_East), (.slice A_p0_edges_South p0.edges.South.length c_p0_edges_South), (.slice A_p0_edges_West p0.edges.West.length c_p0_edges_West)] 84 (0, 0)))) (hR1 : RO NoS w (rowR encN_Row A_p0_rows c_p0_rows (tag H_p0_rows p0.rows))) (hR2 : RO NoS w (nestO subN_Row H_p0_rows p0.rows)) (hR3 : RO NoS w (rowR encInt A_p0_edges_North c_p0_edges_North p0.edges.North)) (hR4 : RO NoS w (rowR encInt A_p0_edges_East c_p0_edges_East p0.edges.East)) (hR5 : RO NoS w (rowR encInt A_p0_edges_South c_p0_edges_South p0.edges.South)) (hR6 : RO NoS w (rowR encInt A_p0_edges_West c_p0_edges_West p0.edges.West)) (hR7 : RO NoS w (rowR encInt A_p1_Cells c_p1_Cells p1.Cells)) (hf : fill_job_allows k p0 p1 p2 = some r) :
    CallsR Try.prog 55 #[(.pointer (some ⟨g_p0, 0, none⟩)), (.agg #[(.slice A_p1_Cells p1.Cells.length c_p1_Cells), (.int .i64 p1.South.e0), (.int .i64 p1.South.e1), (.int .i64 p1.South.e2), (.int .i64 p1.South.e3), (.int .i64 p1.South.e4), (.int .i64 p1.South.e5), (.int .i64 p1.South.e6), (.int .i64 p1.South.e7), (.int .i64 p1.North.e0), (.int .i64 p1.North.e1), (.int .i64 p1.North.e2), (.int .i64 p1.North.e3), (.int .i64 p1.North.e4), (.int .i64 p1.North.e5), (.int .i64 p1.North.e6), (.int .i64 p1.North.e7), (.int .i64 p1.West), (.int .i64 p1.East)]), (.int .i64 p2)] w (fun v w' => v = (.bool r) ∧ Keeps NoS w w') := by
  have hS : St NoS w w [blk g_p0 (.cells #[(.slice A_p0_rows p0.rows.length c_p0_rows), (.int .i64 p0.width), (.int .i64 p0.height), (.slice A_p0_edges_North p0.edges.North.length c_p0_edges_North), (.slice A_p0_edges_East p0.edges.East.length c_p0_edges_East), (.slice A_p0_edges_South p0.edges.South.length c_p0_edges_South), (.slice A_p0_edges_West p0.edges.West.length c_p0_edges_West)] 84 (0, 0)), rowR encN_Row A_p0_rows c_p0_rows (tag H_p0_rows p0.rows), nestO subN_Row H_p0_rows p0.rows, rowR encInt A_p0_edges_North c_p0_edges_North p0.edges.North, rowR encInt A_p0_edges_East c_p0_edges_East p0.edges.East, rowR encInt A_p0_edges_South c_p0_edges_South p0.edges.South, rowR encInt A_p0_edges_West c_p0_edges_West p0.edges.West, rowR encInt A_p1_Cells c_p1_Cells p1.Cells] [] := St.init (ro_cons hR0 (ro_cons hR1 (ro_cons hR2 (ro_cons hR3 (ro_cons hR4 (ro_cons hR5 (ro_cons hR6 (ro_cons hR7 (ro_nil _ _)))))))))
  refine enter 77 Try.func55 rfl Try.ntmps55 rfl ?_
  unfold fill_job_allows at hf
  refine WC.seq ?_
  refine WC.region ?_
  refine WL.new hS 4 [] (fun g => (.pointer (some ⟨g, 0, none⟩))) (.cells #[(.slice A_p1_Cells p1.Cells.length c_p1_Cells), (.int .i64 p1.South.e0), (.int .i64 p1.South.e1), (.int .i64 p1.South.e2), (.int .i64 p1.South.e3), (.int .i64 p1.South.e4), (.int .i64 p1.South.e5), (.int .i64 p1.South.e6), (.int .i64 p1.South.e7), (.int .i64 p1.North.e0), (.int .i64 p1.North.e1), (.int .i64 p1.North.e2), (.int .i64 p1.North.e3), (.int .i64 p1.North.e4), (.int .i64 p1.North.e5), (.int .i64 p1.North.e6), (.int .i64 p1.North.e7), (.int .i64 p1.West), (.int .i64 p1.East)] 88 (0, 0)) [] (fun fb g => by kernel_rfl) trivial (fun g2806 w2807 hS2808 => ?_)
  refine ⟨trivial, ?_⟩
  refine seg 2 [] [0, 2, 4] [(0, (.pointer (some ⟨g_p0, 0, none⟩))), (2, (.int .i64 p2)), (4, (.pointer (some ⟨g2806, 0, none⟩)))] [] (fun fb => by kernel_rfl) rfl trivial ?_
  refine WL.done rfl ?_
  refine WX.next ?_
  refine WC.seq ?_
  refine WC.seq ?_
  refine WC.regionD ([(4, ⟨g_p0, 6, none⟩, (.slice A_p0_edges_West p0.edges.West.length c_p0_edges_West)), (7, ⟨g2806, 17, none⟩, (.int .i64 p1.West)), (18, ⟨g2806, 18, none⟩, (.int .i64 p1.East))], [0, 1, 2, 3, 4, 5, 6, 7, 9, 10, 11, 12, 13, 14, 16, 17, 18, 20, 21], [[], [0], [0, 1], [0, 1, 2], [0, 1, 2, 3], [], [], [6], [0, 1, 2, 3, 4, 5, 6, 7], [0, 1, 2, 3, 4, 5, 6, 7, 8], [0, 1, 2, 3, 4, 5, 6, 7, 8, 9], [0, 1, 2, 3, 4, 5, 6, 7, 8, 9, 10], [0, 1, 2, 3, 4, 5, 6, 7, 8, 9, 10, 11], [0, 1, 2, 3, 4, 5, 6, 7, 8, 9, 10, 11, 12], [0, 1, 2, 3, 4, 5, 6, 7, 8, 9, 10, 11, 12, 13], [0, 1, 2, 3, 4, 5, 6, 7, 8, 9, 10, 11, 12, 13, 14], [0, 1, 2, 3, 4, 5, 6, 7, 8, 9, 10], [0, 1, 2, 3, 4, 5, 6, 7, 8, 9, 10], [0, 1, 2, 3, 4, 5, 6, 7, 8, 9, 10, 17], [0, 1, 2, 3, 4, 5, 6, 7, 8, 9, 10, 11, 12, 13, 14, 15, 16, 17, 18], [0, 1, 2, 3, 4, 5, 6, 7, 8, 9, 10, 11, 12, 13, 14, 15, 16, 17, 18, 19], [0, 1, 2, 3, 4, 5, 6, 7, 8, 9, 10, 11, 12, 13, 14, 15, 16, 17, 18, 19, 20]]) [[0, 1, 2, 3, 4, 5, 6, 7, 8, 9, 10, 11, 12, 13, 14, 16, 17, 18, 15, 19, 20, 21]] (by kernel_rfl) (by kernel_rfl) (NoPanic.seq (NoPanic.seq (NoPanic.body))) ?_
  have hS2840 := hS2808.drew
  revert hS2840
  generalize World.drew w2807 = w2839
  intro hS2840
  refine ⟨⟨blk_cell (hS2840.rd 0).1 6 rfl, hS2840.cell 0 rfl 17 rfl, hS2840.cell 0 rfl 18 rfl, trivial⟩, forallC ?_ (forallN)⟩
  refine segF 8 [.v (.slice A_p0_edges_West p0.edges.West.length c_p0_edges_West), .v (.int .i64 p1.West)] [0, 2, 4, 12, 13, 15] [(0, (.pointer (some ⟨g_p0, 0, none⟩))), (2, (.int .i64 p2)), (4, (.pointer (some ⟨g2806, 0, none⟩))), (12, (.slice A_p0_edges_West p0.edges.West.length c_p0_edges_West)), (13, (.int .i64 p2)), (15, (.int .i64 p1.West))] [] [0, 1] [(4, ⟨g_p0, 6, none⟩, (.slice A_p0_edges_West p0.edges.West.length c_p0_edges_West)), (7, ⟨g2806, 17, none⟩, (.int .i64 p1.West))] (fun fb => by kernel_rfl) rfl trivial rfl ?_
  obtain ⟨t2841, ht2842, hf⟩ := bind_some hf
  refine WL.call (some 16) 68 #[(.slice A_p0_edges_West p0.edges.West.length c_p0_edges_West), (.int .i64 p2), (.int .i64 p1.West)] (fun fb => by kernel_rfl) (fill_at_calls p0.edges.West p2 p1.West A_p0_edges_West c_p0_edges_West t2841 _ (hS2840.rd 6) ht2842) (fun v w2843 hR2844 => ?_)
  obtain ⟨rfl, hk_⟩ := hR2844
  have hS2845 := hS2840.keepN hk_
  refine ⟨⟨hS2845.cell 0 rfl 18 rfl, trivial⟩, ?_⟩
  refine seg 11 [] [0, 2, 4, 18] [(0, (.pointer (some ⟨g_p0, 0, none⟩))), (2, (.int .i64 p2)), (4, (.pointer (some ⟨g2806, 0, none⟩))), (18, (.bool (!t2841)))] [] (fun fb => by kernel_rfl) rfl trivial ?_
  obtain ⟨x2852, hx2853, hf⟩ := bind_some hf
  refine WL.cutW (T := Bool) 22 (fun t => [(0, (.pointer (some ⟨g_p0, 0, none⟩))), (2, (.int .i64 p2)), (4, (.pointer (some ⟨g2806, 0, none⟩))), (29, (.bool t))]) (fun t w1 => (St NoS w w1 [blk g_p0 (.cells #[(.slice A_p0_rows p0.rows.length c_p0_rows), (.int .i64 p0.width), (.int .i64 p0.height), (.slice A_p0_edges_North p0.edges.North.length c_p0_edges_North), (.slice A_p0_edges_East p0.edges.East.length c_p0_edges_East), (.slice A_p0_edges_South p0.edges.South.length c_p0_edges_South), (.slice A_p0_edges_West p0.edges.West.length c_p0_edges_West)] 84 (0, 0)), rowR encN_Row A_p0_rows c_p0_rows (tag H_p0_rows p0.rows), nestO subN_Row H_p0_rows p0.rows, rowR encInt A_p0_edges_North c_p0_edges_North p0.edges.North, rowR encInt A_p0_edges_East c_p0_edges_East p0.edges.East, rowR encInt A_p0_edges_South c_p0_edges_South p0.edges.South, rowR encInt A_p0_edges_West c_p0_edges_West p0.edges.West, rowR encInt A_p1_Cells c_p1_Cells p1.Cells] [blk g2806 (.cells #[(.slice A_p1_Cells p1.Cells.length c_p1_Cells), (.int .i64 p1.South.e0), (.int .i64 p1.South.e1), (.int .i64 p1.South.e2), (.int .i64 p1.South.e3), (.int .i64 p1.South.e4), (.int .i64 p1.South.e5), (.int .i64 p1.South.e6), (.int .i64 p1.South.e7), (.int .i64 p1.North.e0), (.int .i64 p1.North.e1), (.int .i64 p1.North.e2), (.int .i64 p1.North.e3), (.int .i64 p1.North.e4), (.int .i64 p1.North.e5), (.int .i64 p1.North.e6), (.int .i64 p1.North.e7), (.int .i64 p1.West), (.int .i64 p1.East)] 88 (0, 0))] ∧ x2852 = t) ∧ CellsOK [] w1) (fun K => ?_) ?_
  ·
    rcases br_some hx2853 with ⟨h2854, hx2853⟩ | ⟨h2854, hx2853⟩
    ·
      refine WL.setB 18 h2854 rfl ?_
      refine seg 22 [] [0, 2, 4, 29] [(0, (.pointer (some ⟨g_p0, 0, none⟩))), (2, (.int .i64 p2)), (4, (.pointer (some ⟨g2806, 0, none⟩))), (29, (.bool true))] [] (fun fb => by kernel_rfl) rfl trivial ?_
      injection hx2853 with hx2853
      exact WL.to K true [0, 2, 4, 29] rfl ⟨⟨(hS2845.subR [0, 1, 2, 3, 4, 5, 6, 7]).sub [0] (by decide), hx2853.symm⟩, trivial⟩
    refine WL.setB 18 h2854 rfl ?_
    refine segF 19 [.v (.int .i64 p1.East), .v (.slice A_p0_edges_East p0.edges.East.length c_p0_edges_East)] [0, 2, 4, 18, 23, 24, 26] [(0, (.pointer (some ⟨g_p0, 0, none⟩))), (2, (.int .i64 p2)), (4, (.pointer (some ⟨g2806, 0, none⟩))), (18, (.bool false)), (23, (.slice A_p0_edges_East p0.edges.East.length c_p0_edges_East)), (24, (.int .i64 p2)), (26, (.int .i64 p1.East))] [.cell ⟨g_p0, 4, none⟩ (.slice A_p0_edges_East p0.edges.East.length c_p0_edges_East)] [2] [(18, ⟨g2806, 18, none⟩, (.int .i64 p1.East))] (fun fb => by kernel_rfl) rfl ⟨blk_cell (hS2845.rd 0).1 4 rfl, trivial⟩ rfl ?_
    obtain ⟨t2855, ht2856, hx2853⟩ := bind_some hx2853
    refine WL.call (some 27) 68 #[(.slice A_p0_edges_East p0.edges.East.length c_p0_edges_East), (.int .i64 p2), (.int .i64 p1.East)] (fun fb => by kernel_rfl) (fill_at_calls p0.edges.East p2 p1.East A_p0_edges_East c_p0_edges_East t2855 _ (hS2845.rd 4) ht2856) (fun v w2857 hR2858 => ?_)
    obtain ⟨rfl, hk_⟩ := hR2858
    have hS2859 := hS2845.keepN hk_
    refine ⟨trivial, ?_⟩
    refine seg 22 [] [0, 2, 4, 29] [(0, (.pointer (some ⟨g_p0, 0, none⟩))), (2, (.int .i64 p2)), (4, (.pointer (some ⟨g2806, 0, none⟩))), (29, (.bool (!t2855)))] [] (fun fb => by kernel_rfl) rfl trivial ?_
    injection hx2853 with hx2853
    exact WL.to K (!t2855) [0, 2, 4, 29] rfl ⟨⟨(hS2859.subR [0, 1, 2, 3, 4, 5, 6, 7]).sub [0] (by decide), hx2853.symm⟩, trivial⟩
  rintro y2860 w2862 ⟨⟨hS2863, hq2861⟩, hF2864⟩
  subst hq2861
  refine WL.done rfl ?_
  refine WX.next ?_
  rcases br_some hf with ⟨h2865, hf⟩ | ⟨h2865, hf⟩
  · refine WC.condT2 (fun fb => by kernel_rfl) h2865 ?_
    refine WC.seq ?_
    refine WC.region ?_
    refine seg 1 [] [6] [(6, (.bool false))] [] (fun fb => by kernel_rfl) rfl trivial ?_
    refine WL.done rfl ?_
    refine WX.next ?_
    refine WC.ret ?_
    injection hf with hf
    subst hf
    exact WX.thenR (WX.ret_ [] (.bool false) [] (fun fb => by kernel_rfl) trivial ⟨_, rfl, rfl, hS2863.keep⟩)
  refine WC.condF2 (fun fb => by kernel_rfl) h2865 ?_
  refine WC.skip ?_
  refine WX.next ?_
  refine WC.seq ?_
  refine WC.seq ?_
  refine WC.region ?_
  refine seg 5 [.v (.int .i64 p0.width)] [0, 2, 4, 33, 34] [(0, (.pointer (some ⟨g_p0, 0, none⟩))), (2, (.int .i64 p2)), (4, (.pointer (some ⟨g2806, 0, none⟩))), (33, (.int .i64 p0.width)), (34, (.int .i64 0))] [.cell ⟨g_p0, 1, none⟩ (.int .i64 p0.width)] (fun fb => by kernel_rfl) rfl ⟨blk_cell (hS2863.rd 0).1 1 rfl, trivial⟩ ?_
  refine WL.done rfl ?_
  refine WX.next ?_
  obtain ⟨x3402, hx3403, hf⟩ := bind_some hf
  refine WC.cutN (T := Unit) (fun t => []) (fun t w1 => St NoS w w1 [blk g_p0 (.cells #[(.slice A_p0_rows p0.rows.length c_p0_rows), (.int .i64 p0.width), (.int .i64 p0.height), (.slice A_p0_edges_North p0.edges.North.length c_p0_edges_North), (.slice A_p0_edges_East p0.edges.East.length c_p0_edges_East), (.slice A_p0_edges_South p0.edges.South.length c_p0_edges_South), (.slice A_p0_edges_West p0.edges.West.length c_p0_edges_West)] 84 (0, 0)), rowR encN_Row A_p0_rows c_p0_rows (tag H_p0_rows p0.rows), nestO subN_Row H_p0_rows p0.rows, rowR encInt A_p0_edges_North c_p0_edges_North p0.edges.North, rowR encInt A_p0_edges_East c_p0_edges_East p0.edges.East, rowR encInt A_p0_edges_South c_p0_edges_South p0.edges.South, rowR encInt A_p0_edges_West c_p0_edges_West p0.edges.West, rowR encInt A_p1_Cells c_p1_Cells p1.Cells] [] ∧ x3402 = .inr t) (fun Kx3402 => ?_) ?_
  ·
    refine WC.block ?_
    refine WC.loop (T := Int) (fun t => [(0, (.pointer (some ⟨g_p0, 0, none⟩))), (2, (.int .i64 p2)), (4, (.pointer (some ⟨g2806, 0, none⟩))), (33, (.int .i64 p0.width)), (34, (.int .i64 t))]) (fun n t w1 => St NoS w w1 [blk g_p0 (.cells #[(.slice A_p0_rows p0.rows.length c_p0_rows), (.int .i64 p0.width), (.int .i64 p0.height), (.slice A_p0_edges_North p0.edges.North.length c_p0_edges_North), (.slice A_p0_edges_East p0.edges.East.length c_p0_edges_East), (.slice A_p0_edges_South p0.edges.South.length c_p0_edges_South), (.slice A_p0_edges_West p0.edges.West.length c_p0_edges_West)] 84 (0, 0)), rowR encN_Row A_p0_rows c_p0_rows (tag H_p0_rows p0.rows), nestO subN_Row H_p0_rows p0.rows, rowR encInt A_p0_edges_North c_p0_edges_North p0.edges.North, rowR encInt A_p0_edges_East c_p0_edges_East p0.edges.East, rowR encInt A_p0_edges_South c_p0_edges_South p0.edges.South, rowR encInt A_p0_edges_West c_p0_edges_West p0.edges.West, rowR encInt A_p1_Cells c_p1_Cells p1.Cells] [blk g2806 (.cells #[(.slice A_p1_Cells p1.Cells.length c_p1_Cells), (.int .i64 p1.South.e0), (.int .i64 p1.South.e1), (.int .i64 p1.South.e2), (.int .i64 p1.South.e3), (.int .i64 p1.South.e4), (.int .i64 p1.South.e5), (.int .i64 p1.South.e6), (.int .i64 p1.South.e7), (.int .i64 p1.North.e0), (.int .i64 p1.North.e1), (.int .i64 p1.North.e2), (.int .i64 p1.North.e3), (.int .i64 p1.North.e4), (.int .i64 p1.North.e5), (.int .i64 p1.North.e6), (.int .i64 p1.North.e7), (.int .i64 p1.West), (.int .i64 p1.East)] 88 (0, 0))] ∧ fill_job_allows.l0 n t p0 p1 p2 = some x3402) k 0 [0, 2, 4, 33, 34] rfl ⟨(hS2863.subR [0, 1, 2, 3, 4, 5, 6, 7]).sub [0] (by decide), hx3403⟩ ?_
    rintro k3404 x3401 w3405 ⟨hS3406, hl3407⟩
    cases k3404 with
    | zero => rw [fill_job_allows.l0] at hl3407; cases hl3407
    | succ k3404 =>
      rw [fill_job_allows.l0] at hl3407
      refine WC.seq ?_
      refine WC.region ?_
      refine seg 1 [] [0, 2, 4, 33, 34, 35] [(0, (.pointer (some ⟨g_p0, 0, none⟩))), (2, (.int .i64 p2)), (4, (.pointer (some ⟨g2806, 0, none⟩))), (33, (.int .i64 p0.width)), (34, (.int .i64 x3401)), (35, (.bool (decide (x3401 < p0.width))))] [] (fun fb => by kernel_rfl) rfl trivial ?_
      refine WL.done rfl ?_
      refine WX.next ?_
      refine WC.seq ?_
      rcases br_some hl3407 with ⟨h3408, hl3407⟩ | ⟨h3408, hl3407⟩
      · refine WC.condT2 (fun fb => by kernel_rfl) h3408 ?_
        refine WC.skip ?_
        refine WX.next ?_
        refine WC.seq ?_
        refine WC.block ?_
        refine WC.seq ?_
        refine WC.region ?_
        refine seg 2 [] [0, 2, 4, 7, 33, 34] [(0, (.pointer (some ⟨g_p0, 0, none⟩))), (2, (.int .i64 p2)), (4, (.pointer (some ⟨g2806, 0, none⟩))), (7, (.int .i64 x3401)), (33, (.int .i64 p0.width)), (34, (.int .i64 x3401))] [] (fun fb => by kernel_rfl) rfl trivial ?_
        refine WL.done rfl ?_
        refine WX.next ?_
        refine WC.seq ?_
        obtain ⟨x3544, hx3545, hl3407⟩ := bind_some hl3407
        refine WC.cutN (T := Bool) (fun t => [(0, (.pointer (some ⟨g_p0, 0, none⟩))), (2, (.int .i64 p2)), (4, (.pointer (some ⟨g2806, 0, none⟩))), (33, (.int .i64 p0.width)), (34, (.int .i64 x3401)), (75, (.bool t))]) (fun t w1 => St NoS w w1 [blk g_p0 (.cells #[(.slice A_p0_rows p0.rows.length c_p0_rows), (.int .i64 p0.width), (.int .i64 p0.height), (.slice A_p0_edges_North p0.edges.North.length c_p0_edges_North), (.slice A_p0_edges_East p0.edges.East.length c_p0_edges_East), (.slice A_p0_edges_South p0.edges.South.length c_p0_edges_South), (.slice A_p0_edges_West p0.edges.West.length c_p0_edges_West)] 84 (0, 0)), rowR encN_Row A_p0_rows c_p0_rows (tag H_p0_rows p0.rows), nestO subN_Row H_p0_rows p0.rows, rowR encInt A_p0_edges_North c_p0_edges_North p0.edges.North, rowR encInt A_p0_edges_East c_p0_edges_East p0.edges.East, rowR encInt A_p0_edges_South c_p0_edges_South p0.edges.South, rowR encInt A_p0_edges_West c_p0_edges_West p0.edges.West, rowR encInt A_p1_Cells c_p1_Cells p1.Cells] [blk g2806 (.cells #[(.slice A_p1_Cells p1.Cells.length c_p1_Cells), (.int .i64 p1.South.e0), (.int .i64 p1.South.e1), (.int .i64 p1.South.e2), (.int .i64 p1.South.e3), (.int .i64 p1.South.e4), (.int .i64 p1.South.e5), (.int .i64 p1.South.e6), (.int .i64 p1.South.e7), (.int .i64 p1.North.e0), (.int .i64 p1.North.e1), (.int .i64 p1.North.e2), (.int .i64 p1.North.e3), (.int .i64 p1.North.e4), (.int .i64 p1.North.e5), (.int .i64 p1.North.e6), (.int .i64 p1.North.e7), (.int .i64 p1.West), (.int .i64 p1.East)] 88 (0, 0))] ∧ x3544 = t) (fun Kx3544 => ?_) ?_
        ·
          rcases br_some hx3545 with ⟨h3546, hx3545⟩ | ⟨h3546, hx3545⟩
          ·
            rcases br_some hx3545 with ⟨h3553, hx3545⟩ | ⟨h3553, hx3545⟩
            ·
              obtain ⟨h3582, hx3545⟩ := as_some hx3545
              refine WC.regionD ([(7, ⟨g_p0, 5, none⟩, (.slice A_p0_edges_South p0.edges.South.length c_p0_edges_South)), (12, (flatA ⟨g2806, 1, none⟩ (x3401.toNat * 1)), (.int .i64 (A8_Int.get p1.South x3401)))], [0, 1, 2, 3, 4, 5, 6, 7, 8, 9, 10, 11, 12, 14, 15, 16, 17, 18, 19, 20, 22, 23, 24, 25, 26, 27, 28, 30, 31, 32, 33, 36, 37, 38], [[], [0], [0, 1], [0, 1, 2], [0, 1, 2, 3], [0, 1, 2, 3, 4], [0, 1, 2, 3, 4, 5], [0, 1, 2, 3, 4, 5, 6], [0, 1, 2], [0, 1, 2], [0, 1, 2], [0, 1, 2, 9, 10], [0, 1, 2, 9, 10, 11], [0, 1, 2, 3, 4, 5, 6, 7, 8, 9, 10, 11, 12], [0, 1, 2, 3, 4, 5, 6, 7, 8, 9, 10, 11, 12, 13], [0, 1, 2, 3, 4, 5, 6, 7, 8, 9, 10, 11, 12, 13, 14], [0, 1, 2, 3, 4, 5, 6, 7, 8, 9, 10, 11, 12, 13, 14, 15], [0, 1, 2, 3, 4, 5, 6, 7, 8, 9, 10, 11, 12, 13, 14, 15, 16], [0, 1, 2, 3, 4, 5, 6, 7, 8, 9, 10, 11, 12, 13, 14, 15, 16], [0, 1, 2, 3, 4, 5, 6, 7, 8, 9, 10, 11, 12, 13, 14, 15, 16, 18], [0, 1, 2, 3, 4, 5, 6, 7, 8, 9, 10, 11, 12, 13, 14, 15, 16, 18, 19], [0, 1, 2, 3, 4, 5, 6, 7, 8, 9, 10, 11, 12, 13, 14, 15, 16, 18, 19, 20], [0, 1, 2, 3, 4, 5, 6, 7, 8, 9, 10, 11, 12, 13, 14, 15, 16, 18, 19, 20, 21], [0, 1, 2, 3, 4, 5, 6, 7, 8, 9, 10, 11, 12, 13, 14, 15, 16, 17, 18, 19, 20, 21, 22], [0, 1, 2, 3, 4, 5, 6, 7, 8, 9, 10, 11, 12, 13, 14, 15, 16, 17, 18, 19, 20, 21, 22, 23], [0, 1, 2, 3, 4, 5, 6, 7, 8, 9, 10, 11, 12, 13, 14, 15, 16, 17, 18, 19, 20, 21, 22, 23, 24], [0, 1, 2, 3, 4, 5, 6, 7, 8, 9, 10, 11, 12, 13, 14, 15, 16, 17, 18, 19, 20, 21, 22, 23, 24, 25], [0, 1, 2, 3, 4, 5, 6, 7, 8, 9, 10, 11, 12, 13, 14, 15, 16, 17, 18, 19, 20, 21, 22, 23, 24, 25, 26], [0, 1, 2, 3, 4, 5, 6, 7, 8, 9, 10, 11, 12, 13, 14, 15, 16, 17, 18, 19, 20, 21, 22, 23, 24, 25, 26, 27], [0, 1, 2, 3, 4, 5, 6, 7, 8, 9, 10, 11, 12, 13, 14, 15, 16, 17, 18, 19, 20, 21, 22, 23, 24, 25, 26, 27, 28], [0, 1, 2, 3, 4, 5, 6, 7, 8, 9, 10, 11, 12, 13, 14, 15, 16, 17, 18, 19, 20, 21, 22, 23, 24], [0, 1, 2, 3, 4, 5, 6, 7, 8, 9, 10, 11, 12, 13, 14, 15, 16, 17, 18, 19, 20, 21, 22, 23, 24], [0, 1, 2, 3, 4, 5, 6, 7, 8, 9, 10, 11, 12, 13, 14, 15, 16, 17, 18, 19, 20, 21, 22, 23, 24], [0, 1, 2, 3, 4, 5, 6, 7, 8, 9, 10, 11, 12, 13, 14, 15, 16, 17, 18, 19, 20, 21, 22, 23, 24, 31, 32], [0, 1, 2, 3, 4, 5, 6, 7, 8, 9, 10, 11, 12, 13, 14, 15, 16, 17, 18, 19, 20, 21, 22, 23, 24, 31, 32, 33], [0, 1, 2, 3, 4, 5, 6, 7, 8, 9, 10, 11, 12, 13, 14, 15, 16, 17, 18, 19, 20, 21, 22, 23, 24, 25, 26, 27, 28, 29, 30, 31, 32, 33, 34], [0, 1, 2, 3, 4, 5, 6, 7, 8, 9, 10, 11, 12, 13, 14, 15, 16, 17, 18, 19, 20, 21, 22, 23, 24, 25, 26, 27, 28, 29, 30, 31, 32, 33, 34, 35], [0, 1, 2, 3, 4, 5, 6, 7, 8, 9, 10, 11, 12, 13, 14, 15, 16, 17, 18, 19, 20, 21, 22, 23, 24, 25, 26, 27, 28, 29, 30, 31, 32, 33, 34, 35, 36], [0, 1, 2, 3, 4, 5, 6, 7, 8, 9, 10, 11, 12, 13, 14, 15, 16, 17, 18, 19, 20, 21, 22, 23, 24, 25, 26, 27, 28, 29, 30, 31, 32, 33, 34, 35, 36, 37]]) [[0, 1, 2, 3, 4, 5, 6, 7, 8, 9, 10, 11, 12, 13, 14, 15, 16, 17, 18, 19, 20, 21, 22, 23, 24, 25, 26, 27, 28, 30, 31, 32, 33, 29, 34, 35, 36, 37, 38], [0, 1, 2, 3, 4, 5, 6, 7, 8, 9, 10, 11, 12, 13, 14, 15, 16, 17, 18, 19, 20, 21, 22, 23, 24, 25, 26, 27, 28, 30, 31, 32, 33, 34, 29, 35, 36, 37, 38]] (by kernel_rfl) (by kernel_rfl) (NoPanic.seq (NoPanic.block (NoPanic.seq (NoPanic.seq (NoPanic.block (NoPanic.seq (NoPanic.body))))))) ?_
              have hS3580 := hS3406.drew
              revert hS3580
              generalize World.drew w3405 = w3579
              intro hS3580
              refine ⟨⟨blk_cell (hS3580.rd 0).1 5 rfl, hS3580.cell 0 rfl _ (cases8 (Q := fun z_ => (#[(.slice A_p1_Cells p1.Cells.length c_p1_Cells), (.int .i64 p1.South.e0), (.int .i64 p1.South.e1), (.int .i64 p1.South.e2), (.int .i64 p1.South.e3), (.int .i64 p1.South.e4), (.int .i64 p1.South.e5), (.int .i64 p1.South.e6), (.int .i64 p1.South.e7), (.int .i64 p1.North.e0), (.int .i64 p1.North.e1), (.int .i64 p1.North.e2), (.int .i64 p1.North.e3), (.int .i64 p1.North.e4), (.int .i64 p1.North.e5), (.int .i64 p1.North.e6), (.int .i64 p1.North.e7), (.int .i64 p1.West), (.int .i64 p1.East)] : Array Value)[1 + z_.toNat * 1]? = some (.int .i64 (A8_Int.get p1.South z_))) h3582 (by kernel_rfl) (by kernel_rfl) (by kernel_rfl) (by kernel_rfl) (by kernel_rfl) (by kernel_rfl) (by kernel_rfl) (by kernel_rfl)), trivial⟩, forallC ?_ (forallC ?_ (forallN))⟩
              ·
                refine seg 3 [] [0, 2, 4, 7, 33, 34, 39] [(0, (.pointer (some ⟨g_p0, 0, none⟩))), (2, (.int .i64 p2)), (4, (.pointer (some ⟨g2806, 0, none⟩))), (7, (.int .i64 x3401)), (33, (.int .i64 p0.width)), (34, (.int .i64 x3401)), (39, (.bool (p2 == 0)))] [] (fun fb => by kernel_rfl) rfl trivial ?_
                refine WL.setB 39 h3546 rfl ?_
                refine segF 13 [.v (.slice A_p0_edges_South p0.edges.South.length c_p0_edges_South), .v (.int .i64 (A8_Int.get p1.South x3401))] [0, 2, 4, 7, 33, 34, 39, 44, 45, 49] [(0, (.pointer (some ⟨g_p0, 0, none⟩))), (2, (.int .i64 p2)), (4, (.pointer (some ⟨g2806, 0, none⟩))), (7, (.int .i64 x3401)), (33, (.int .i64 p0.width)), (34, (.int .i64 x3401)), (39, (.bool true)), (44, (.slice A_p0_edges_South p0.edges.South.length c_p0_edges_South)), (45, (.int .i64 x3401)), (49, (.int .i64 (A8_Int.get p1.South x3401)))] [.idx (some ⟨0, 0, none⟩) x3401 8] [0, 1] [(7, ⟨g_p0, 5, none⟩, (.slice A_p0_edges_South p0.edges.South.length c_p0_edges_South)), (12, (flatA ⟨g2806, 1, none⟩ (x3401.toNat * 1)), (.int .i64 (A8_Int.get p1.South x3401)))] (fun fb => by kernel_rfl) rfl ⟨⟨h3582.1, h3582.2, rfl⟩, trivial⟩ rfl ?_
                obtain ⟨t3583, ht3584, hx3545⟩ := bind_some hx3545
                refine WL.call (some 50) 68 #[(.slice A_p0_edges_South p0.edges.South.length c_p0_edges_South), (.int .i64 x3401), (.int .i64 (A8_Int.get p1.South x3401))] (fun fb => by kernel_rfl) (fill_at_calls p0.edges.South x3401 (A8_Int.get p1.South x3401) A_p0_edges_South c_p0_edges_South t3583 _ (hS3580.rd 5) ht3584) (fun v w3585 hR3586 => ?_)
                obtain ⟨rfl, hk_⟩ := hR3586
                have hS3587 := hS3580.keepN hk_
                refine ⟨trivial, ?_⟩
                refine seg 17 [] [0, 2, 4, 7, 33, 34, 53] [(0, (.pointer (some ⟨g_p0, 0, none⟩))), (2, (.int .i64 p2)), (4, (.pointer (some ⟨g2806, 0, none⟩))), (7, (.int .i64 x3401)), (33, (.int .i64 p0.width)), (34, (.int .i64 x3401)), (53, (.bool (!t3583)))] [] (fun fb => by kernel_rfl) rfl trivial ?_
                obtain ⟨x3594, hx3595, hx3545⟩ := bind_some hx3545
                refine WL.cutW (T := Bool) 39 (fun t => [(0, (.pointer (some ⟨g_p0, 0, none⟩))), (2, (.int .i64 p2)), (4, (.pointer (some ⟨g2806, 0, none⟩))), (33, (.int .i64 p0.width)), (34, (.int .i64 x3401)), (75, (.bool t))]) (fun t w1 => (St NoS w w1 [blk g_p0 (.cells #[(.slice A_p0_rows p0.rows.length c_p0_rows), (.int .i64 p0.width), (.int .i64 p0.height), (.slice A_p0_edges_North p0.edges.North.length c_p0_edges_North), (.slice A_p0_edges_East p0.edges.East.length c_p0_edges_East), (.slice A_p0_edges_South p0.edges.South.length c_p0_edges_South), (.slice A_p0_edges_West p0.edges.West.length c_p0_edges_West)] 84 (0, 0)), rowR encN_Row A_p0_rows c_p0_rows (tag H_p0_rows p0.rows), nestO subN_Row H_p0_rows p0.rows, rowR encInt A_p0_edges_North c_p0_edges_North p0.edges.North, rowR encInt A_p0_edges_East c_p0_edges_East p0.edges.East, rowR encInt A_p0_edges_South c_p0_edges_South p0.edges.South, rowR encInt A_p0_edges_West c_p0_edges_West p0.edges.West, rowR encInt A_p1_Cells c_p1_Cells p1.Cells] [blk g2806 (.cells #[(.slice A_p1_Cells p1.Cells.length c_p1_Cells), (.int .i64 p1.South.e0), (.int .i64 p1.South.e1), (.int .i64 p1.South.e2), (.int .i64 p1.South.e3), (.int .i64 p1.South.e4), (.int .i64 p1.South.e5), (.int .i64 p1.South.e6), (.int .i64 p1.South.e7), (.int .i64 p1.North.e0), (.int .i64 p1.North.e1), (.int .i64 p1.North.e2), (.int .i64 p1.North.e3), (.int .i64 p1.North.e4), (.int .i64 p1.North.e5), (.int .i64 p1.North.e6), (.int .i64 p1.North.e7), (.int .i64 p1.West), (.int .i64 p1.East)] 88 (0, 0))] ∧ x3594 = t) ∧ CellsOK [] w1) (fun K => ?_) ?_
                ·
                  rcases br_some hx3595 with ⟨h3596, hx3595⟩ | ⟨h3596, hx3595⟩
                  ·
                    refine WL.setB 53 h3596 rfl ?_
                    refine seg 39 [] [0, 2, 4, 33, 34, 75] [(0, (.pointer (some ⟨g_p0, 0, none⟩))), (2, (.int .i64 p2)), (4, (.pointer (some ⟨g2806, 0, none⟩))), (33, (.int .i64 p0.width)), (34, (.int .i64 x3401)), (75, (.bool true))] [] (fun fb => by kernel_rfl) rfl trivial ?_
                    injection hx3595 with hx3595
                    exact WL.to K true [0, 2, 4, 33, 34, 75] rfl ⟨⟨(hS3587.subR [0, 1, 2, 3, 4, 5, 6, 7]).sub [0] (by decide), hx3595.symm⟩, trivial⟩
                  refine WL.setB 53 h3596 rfl ?_
                  refine seg 25 [.v (.int .i64 p0.height)] [0, 2, 4, 7, 33, 34, 53, 61] [(0, (.pointer (some ⟨g_p0, 0, none⟩))), (2, (.int .i64 p2)), (4, (.pointer (some ⟨g2806, 0, none⟩))), (7, (.int .i64 x3401)), (33, (.int .i64 p0.width)), (34, (.int .i64 x3401)), (53, (.bool false)), (61, (.bool (p2 == (w64 (p0.height - 1)))))] [.cell ⟨g_p0, 2, none⟩ (.int .i64 p0.height)] (fun fb => by kernel_rfl) rfl ⟨blk_cell (hS3587.rd 0).1 2 rfl, trivial⟩ ?_
                  refine WL.setB 61 h3553 rfl ?_
                  refine seg 35 [.v (.slice A_p0_edges_North p0.edges.North.length c_p0_edges_North), .v (.int .i64 (A8_Int.get p1.North x3401))] [0, 2, 4, 33, 34, 53, 61, 66, 67, 71] [(0, (.pointer (some ⟨g_p0, 0, none⟩))), (2, (.int .i64 p2)), (4, (.pointer (some ⟨g2806, 0, none⟩))), (33, (.int .i64 p0.width)), (34, (.int .i64 x3401)), (53, (.bool false)), (61, (.bool true)), (66, (.slice A_p0_edges_North p0.edges.North.length c_p0_edges_North)), (67, (.int .i64 x3401)), (71, (.int .i64 (A8_Int.get p1.North x3401)))] [.idx (some ⟨0, 0, none⟩) x3401 8, .cell ⟨g_p0, 3, none⟩ (.slice A_p0_edges_North p0.edges.North.length c_p0_edges_North), .cell (flatA ⟨g2806, 9, none⟩ (x3401.toNat * 1)) (.int .i64 (A8_Int.get p1.North x3401))] (fun fb => by kernel_rfl) rfl ⟨⟨h3582.1, h3582.2, rfl⟩, blk_cell (hS3587.rd 0).1 3 rfl, hS3587.cell 0 rfl _ (cases8 (Q := fun z_ => (#[(.slice A_p1_Cells p1.Cells.length c_p1_Cells), (.int .i64 p1.South.e0), (.int .i64 p1.South.e1), (.int .i64 p1.South.e2), (.int .i64 p1.South.e3), (.int .i64 p1.South.e4), (.int .i64 p1.South.e5), (.int .i64 p1.South.e6), (.int .i64 p1.South.e7), (.int .i64 p1.North.e0), (.int .i64 p1.North.e1), (.int .i64 p1.North.e2), (.int .i64 p1.North.e3), (.int .i64 p1.North.e4), (.int .i64 p1.North.e5), (.int .i64 p1.North.e6), (.int .i64 p1.North.e7), (.int .i64 p1.West), (.int .i64 p1.East)] : Array Value)[9 + z_.toNat * 1]? = some (.int .i64 (A8_Int.get p1.North z_))) h3582 (by kernel_rfl) (by kernel_rfl) (by kernel_rfl) (by kernel_rfl) (by kernel_rfl) (by kernel_rfl) (by kernel_rfl) (by kernel_rfl)), trivial⟩ ?_
                  obtain ⟨t3597, ht3598, hx3595⟩ := bind_some hx3595
                  refine WL.call (some 72) 68 #[(.slice A_p0_edges_North p0.edges.North.length c_p0_edges_North), (.int .i64 x3401), (.int .i64 (A8_Int.get p1.North x3401))] (fun fb => by kernel_rfl) (fill_at_calls p0.edges.North x3401 (A8_Int.get p1.North x3401) A_p0_edges_North c_p0_edges_North t3597 _ (hS3587.rd 3) ht3598) (fun v w3599 hR3600 => ?_)
                  obtain ⟨rfl, hk_⟩ := hR3600
                  have hS3601 := hS3587.keepN hk_
                  refine ⟨trivial, ?_⟩
                  refine seg 39 [] [0, 2, 4, 33, 34, 75] [(0, (.pointer (some ⟨g_p0, 0, none⟩))), (2, (.int .i64 p2)), (4, (.pointer (some ⟨g2806, 0, none⟩))), (33, (.int .i64 p0.width)), (34, (.int .i64 x3401)), (75, (.bool (!t3597)))] [] (fun fb => by kernel_rfl) rfl trivial ?_
                  injection hx3595 with hx3595
                  exact WL.to K (!t3597) [0, 2, 4, 33, 34, 75] rfl ⟨⟨(hS3601.subR [0, 1, 2, 3, 4, 5, 6, 7]).sub [0] (by decide), hx3595.symm⟩, trivial⟩
                rintro y3602 w3604 ⟨⟨hS3605, hq3603⟩, hF3606⟩
                subst hq3603
                refine WL.done rfl ?_
                injection hx3545 with hx3545
                exact WX.to Kx3544 x3594 [0, 2, 4, 33, 34, 75] rfl ⟨(hS3605.subR [0, 1, 2, 3, 4, 5, 6, 7]).sub [0] (by decide), hx3545.symm⟩
              refine seg 3 [] [0, 2, 4, 7, 33, 34, 39] [(0, (.pointer (some ⟨g_p0, 0, none⟩))), (2, (.int .i64 p2)), (4, (.pointer (some ⟨g2806, 0, none⟩))), (7, (.int .i64 x3401)), (33, (.int .i64 p0.width)), (34, (.int .i64 x3401)), (39, (.bool (p2 == 0)))] [] (fun fb => by kernel_rfl) rfl trivial ?_
              refine WL.setB 39 h3546 rfl ?_
              refine segF 13 [.v (.slice A_p0_edges_South p0.edges.South.length c_p0_edges_South), .v (.int .i64 (A8_Int.get p1.South x3401))] [0, 2, 4, 7, 33, 34, 39, 44, 45, 49] [(0, (.pointer (some ⟨g_p0, 0, none⟩))), (2, (.int .i64 p2)), (4, (.pointer (some ⟨g2806, 0, none⟩))), (7, (.int .i64 x3401)), (33, (.int .i64 p0.width)), (34, (.int .i64 x3401)), (39, (.bool true)), (44, (.slice A_p0_edges_South p0.edges.South.length c_p0_edges_South)), (45, (.int .i64 x3401)), (49, (.int .i64 (A8_Int.get p1.South x3401)))] [.idx (some ⟨0, 0, none⟩) x3401 8] [0, 1] [(7, ⟨g_p0, 5, none⟩, (.slice A_p0_edges_South p0.edges.South.length c_p0_edges_South)), (12, (flatA ⟨g2806, 1, none⟩ (x3401.toNat * 1)), (.int .i64 (A8_Int.get p1.South x3401)))] (fun fb => by kernel_rfl) rfl ⟨⟨h3582.1, h3582.2, rfl⟩, trivial⟩ rfl ?_
              obtain ⟨t3607, ht3608, hx3545⟩ := bind_some hx3545
              refine WL.call (some 50) 68 #[(.slice A_p0_edges_South p0.edges.South.length c_p0_edges_South), (.int .i64 x3401), (.int .i64 (A8_Int.get p1.South x3401))] (fun fb => by kernel_rfl) (fill_at_calls p0.edges.South x3401 (A8_Int.get p1.South x3401) A_p0_edges_South c_p0_edges_South t3607 _ (hS3580.rd 5) ht3608) (fun v w3609 hR3610 => ?_)
              obtain ⟨rfl, hk_⟩ := hR3610
              have hS3611 := hS3580.keepN hk_
              refine ⟨trivial, ?_⟩
              refine seg 17 [] [0, 2, 4, 7, 33, 34, 53] [(0, (.pointer (some ⟨g_p0, 0, none⟩))), (2, (.int .i64 p2)), (4, (.pointer (some ⟨g2806, 0, none⟩))), (7, (.int .i64 x3401)), (33, (.int .i64 p0.width)), (34, (.int .i64 x3401)), (53, (.bool (!t3607)))] [] (fun fb => by kernel_rfl) rfl trivial ?_
              obtain ⟨x3618, hx3619, hx3545⟩ := bind_some hx3545
              refine WL.cutW (T := Bool) 39 (fun t => [(0, (.pointer (some ⟨g_p0, 0, none⟩))), (2, (.int .i64 p2)), (4, (.pointer (some ⟨g2806, 0, none⟩))), (33, (.int .i64 p0.width)), (34, (.int .i64 x3401)), (75, (.bool t))]) (fun t w1 => (St NoS w w1 [blk g_p0 (.cells #[(.slice A_p0_rows p0.rows.length c_p0_rows), (.int .i64 p0.width), (.int .i64 p0.height), (.slice A_p0_edges_North p0.edges.North.length c_p0_edges_North), (.slice A_p0_edges_East p0.edges.East.length c_p0_edges_East), (.slice A_p0_edges_South p0.edges.South.length c_p0_edges_South), (.slice A_p0_edges_West p0.edges.West.length c_p0_edges_West)] 84 (0, 0)), rowR encN_Row A_p0_rows c_p0_rows (tag H_p0_rows p0.rows), nestO subN_Row H_p0_rows p0.rows, rowR encInt A_p0_edges_North c_p0_edges_North p0.edges.North, rowR encInt A_p0_edges_East c_p0_edges_East p0.edges.East, rowR encInt A_p0_edges_South c_p0_edges_South p0.edges.South, rowR encInt A_p0_edges_West c_p0_edges_West p0.edges.West, rowR encInt A_p1_Cells c_p1_Cells p1.Cells] [blk g2806 (.cells #[(.slice A_p1_Cells p1.Cells.length c_p1_Cells), (.int .i64 p1.South.e0), (.int .i64 p1.South.e1), (.int .i64 p1.South.e2), (.int .i64 p1.South.e3), (.int .i64 p1.South.e4), (.int .i64 p1.South.e5), (.int .i64 p1.South.e6), (.int .i64 p1.South.e7), (.int .i64 p1.North.e0), (.int .i64 p1.North.e1), (.int .i64 p1.North.e2), (.int .i64 p1.North.e3), (.int .i64 p1.North.e4), (.int .i64 p1.North.e5), (.int .i64 p1.North.e6), (.int .i64 p1.North.e7), (.int .i64 p1.West), (.int .i64 p1.East)] 88 (0, 0))] ∧ x3618 = t) ∧ CellsOK [] w1) (fun K => ?_) ?_
              ·
                rcases br_some hx3619 with ⟨h3620, hx3619⟩ | ⟨h3620, hx3619⟩
                ·
                  refine WL.setB 53 h3620 rfl ?_
                  refine seg 39 [] [0, 2, 4, 33, 34, 75] [(0, (.pointer (some ⟨g_p0, 0, none⟩))), (2, (.int .i64 p2)), (4, (.pointer (some ⟨g2806, 0, none⟩))), (33, (.int .i64 p0.width)), (34, (.int .i64 x3401)), (75, (.bool true))] [] (fun fb => by kernel_rfl) rfl trivial ?_
                  injection hx3619 with hx3619
                  exact WL.to K true [0, 2, 4, 33, 34, 75] rfl ⟨⟨(hS3611.subR [0, 1, 2, 3, 4, 5, 6, 7]).sub [0] (by decide), hx3619.symm⟩, trivial⟩
                refine WL.setB 53 h3620 rfl ?_
                refine seg 25 [.v (.int .i64 p0.height)] [0, 2, 4, 7, 33, 34, 53, 61] [(0, (.pointer (some ⟨g_p0, 0, none⟩))), (2, (.int .i64 p2)), (4, (.pointer (some ⟨g2806, 0, none⟩))), (7, (.int .i64 x3401)), (33, (.int .i64 p0.width)), (34, (.int .i64 x3401)), (53, (.bool false)), (61, (.bool (p2 == (w64 (p0.height - 1)))))] [.cell ⟨g_p0, 2, none⟩ (.int .i64 p0.height)] (fun fb => by kernel_rfl) rfl ⟨blk_cell (hS3611.rd 0).1 2 rfl, trivial⟩ ?_
                refine WL.setB 61 h3553 rfl ?_
                refine seg 35 [.v (.int .i64 (A8_Int.get p1.North x3401)), .v (.slice A_p0_edges_North p0.edges.North.length c_p0_edges_North)] [0, 2, 4, 33, 34, 53, 61, 66, 67, 71] [(0, (.pointer (some ⟨g_p0, 0, none⟩))), (2, (.int .i64 p2)), (4, (.pointer (some ⟨g2806, 0, none⟩))), (33, (.int .i64 p0.width)), (34, (.int .i64 x3401)), (53, (.bool false)), (61, (.bool true)), (66, (.slice A_p0_edges_North p0.edges.North.length c_p0_edges_North)), (67, (.int .i64 x3401)), (71, (.int .i64 (A8_Int.get p1.North x3401)))] [.idx (some ⟨0, 0, none⟩) x3401 8, .cell (flatA ⟨g2806, 9, none⟩ (x3401.toNat * 1)) (.int .i64 (A8_Int.get p1.North x3401)), .cell ⟨g_p0, 3, none⟩ (.slice A_p0_edges_North p0.edges.North.length c_p0_edges_North)] (fun fb => by kernel_rfl) rfl ⟨⟨h3582.1, h3582.2, rfl⟩, hS3611.cell 0 rfl _ (cases8 (Q := fun z_ => (#[(.slice A_p1_Cells p1.Cells.length c_p1_Cells), (.int .i64 p1.South.e0), (.int .i64 p1.South.e1), (.int .i64 p1.South.e2), (.int .i64 p1.South.e3), (.int .i64 p1.South.e4), (.int .i64 p1.South.e5), (.int .i64 p1.South.e6), (.int .i64 p1.South.e7), (.int .i64 p1.North.e0), (.int .i64 p1.North.e1), (.int .i64 p1.North.e2), (.int .i64 p1.North.e3), (.int .i64 p1.North.e4), (.int .i64 p1.North.e5), (.int .i64 p1.North.e6), (.int .i64 p1.North.e7), (.int .i64 p1.West), (.int .i64 p1.East)] : Array Value)[9 + z_.toNat * 1]? = some (.int .i64 (A8_Int.get p1.North z_))) h3582 (by kernel_rfl) (by kernel_rfl) (by kernel_rfl) (by kernel_rfl) (by kernel_rfl) (by kernel_rfl) (by kernel_rfl) (by kernel_rfl)), blk_cell (hS3611.rd 0).1 3 rfl, trivial⟩ ?_
                obtain ⟨t3621, ht3622, hx3619⟩ := bind_some hx3619
                refine WL.call (some 72) 68 #[(.slice A_p0_edges_North p0.edges.North.length c_p0_edges_North), (.int .i64 x3401), (.int .i64 (A8_Int.get p1.North x3401))] (fun fb => by kernel_rfl) (fill_at_calls p0.edges.North x3401 (A8_Int.get p1.North x3401) A_p0_edges_North c_p0_edges_North t3621 _ (hS3611.rd 3) ht3622) (fun v w3623 hR3624 => ?_)
                obtain ⟨rfl, hk_⟩ := hR3624
                have hS3625 := hS3611.keepN hk_
                refine ⟨trivial, ?_⟩
                refine seg 39 [] [0, 2, 4, 33, 34, 75] [(0, (.pointer (some ⟨g_p0, 0, none⟩))), (2, (.int .i64 p2)), (4, (.pointer (some ⟨g2806, 0, none⟩))), (33, (.int .i64 p0.width)), (34, (.int .i64 x3401)), (75, (.bool (!t3621)))] [] (fun fb => by kernel_rfl) rfl trivial ?_
                injection hx3619 with hx3619
                exact WL.to K (!t3621) [0, 2, 4, 33, 34, 75] rfl ⟨⟨(hS3625.subR [0, 1, 2, 3, 4, 5, 6, 7]).sub [0] (by decide), hx3619.symm⟩, trivial⟩
              rintro y3626 w3628 ⟨⟨hS3629, hq3627⟩, hF3630⟩
              subst hq3627
              refine WL.done rfl ?_
              injection hx3545 with hx3545
              exact WX.to Kx3544 x3618 [0, 2, 4, 33, 34, 75] rfl ⟨(hS3629.subR [0, 1, 2, 3, 4, 5, 6, 7]).sub [0] (by decide), hx3545.symm⟩
            obtain ⟨h3642, hx3545⟩ := as_some hx3545
            refine WC.regionD ([(7, ⟨g_p0, 5, none⟩, (.slice A_p0_edges_South p0.edges.South.length c_p0_edges_South)), (12, (flatA ⟨g2806, 1, none⟩ (x3401.toNat * 1)), (.int .i64 (A8_Int.get p1.South x3401)))], [0, 1, 2, 3, 4, 5, 6, 7, 8, 9, 10, 11, 12, 14, 15, 16, 17, 18, 19, 20, 22, 23, 24, 25, 26, 27, 28, 30, 31, 32, 33, 36, 37, 38], [[], [0], [0, 1], [0, 1, 2], [0, 1, 2, 3], [0, 1, 2, 3, 4], [0, 1, 2, 3, 4, 5], [0, 1, 2, 3, 4, 5, 6], [0, 1, 2], [0, 1, 2], [0, 1, 2], [0, 1, 2, 9, 10], [0, 1, 2, 9, 10, 11], [0, 1, 2, 3, 4, 5, 6, 7, 8, 9, 10, 11, 12], [0, 1, 2, 3, 4, 5, 6, 7, 8, 9, 10, 11, 12, 13], [0, 1, 2, 3, 4, 5, 6, 7, 8, 9, 10, 11, 12, 13, 14], [0, 1, 2, 3, 4, 5, 6, 7, 8, 9, 10, 11, 12, 13, 14, 15], [0, 1, 2, 3, 4, 5, 6, 7, 8, 9, 10, 11, 12, 13, 14, 15, 16], [0, 1, 2, 3, 4, 5, 6, 7, 8, 9, 10, 11, 12, 13, 14, 15, 16], [0, 1, 2, 3, 4, 5, 6, 7, 8, 9, 10, 11, 12, 13, 14, 15, 16, 18], [0, 1, 2, 3, 4, 5, 6, 7, 8, 9, 10, 11, 12, 13, 14, 15, 16, 18, 19], [0, 1, 2, 3, 4, 5, 6, 7, 8, 9, 10, 11, 12, 13, 14, 15, 16, 18, 19, 20], [0, 1, 2, 3, 4, 5, 6, 7, 8, 9, 10, 11, 12, 13, 14, 15, 16, 18, 19, 20, 21], [0, 1, 2, 3, 4, 5, 6, 7, 8, 9, 10, 11, 12, 13, 14, 15, 16, 17, 18, 19, 20, 21, 22], [0, 1, 2, 3, 4, 5, 6, 7, 8, 9, 10, 11, 12, 13, 14, 15, 16, 17, 18, 19, 20, 21, 22, 23], [0, 1, 2, 3, 4, 5, 6, 7, 8, 9, 10, 11, 12, 13, 14, 15, 16, 17, 18, 19, 20, 21, 22, 23, 24], [0, 1, 2, 3, 4, 5, 6, 7, 8, 9, 10, 11, 12, 13, 14, 15, 16, 17, 18, 19, 20, 21, 22, 23, 24, 25], [0, 1, 2, 3, 4, 5, 6, 7, 8, 9, 10, 11, 12, 13, 14, 15, 16, 17, 18, 19, 20, 21, 22, 23, 24, 25, 26], [0, 1, 2, 3, 4, 5, 6, 7, 8, 9, 10, 11, 12, 13, 14, 15, 16, 17, 18, 19, 20, 21, 22, 23, 24, 25, 26, 27], [0, 1, 2, 3, 4, 5, 6, 7, 8, 9, 10, 11, 12, 13, 14, 15, 16, 17, 18, 19, 20, 21, 22, 23, 24, 25, 26, 27, 28], [0, 1, 2, 3, 4, 5, 6, 7, 8, 9, 10, 11, 12, 13, 14, 15, 16, 17, 18, 19, 20, 21, 22, 23, 24], [0, 1, 2, 3, 4, 5, 6, 7, 8, 9, 10, 11, 12, 13, 14, 15, 16, 17, 18, 19, 20, 21, 22, 23, 24], [0, 1, 2, 3, 4, 5, 6, 7, 8, 9, 10, 11, 12, 13, 14, 15, 16, 17, 18, 19, 20, 21, 22, 23, 24], [0, 1, 2, 3, 4, 5, 6, 7, 8, 9, 10, 11, 12, 13, 14, 15, 16, 17, 18, 19, 20, 21, 22, 23, 24, 31, 32], [0, 1, 2, 3, 4, 5, 6, 7, 8, 9, 10, 11, 12, 13, 14, 15, 16, 17, 18, 19, 20, 21, 22, 23, 24, 31, 32, 33], [0, 1, 2, 3, 4, 5, 6, 7, 8, 9, 10, 11, 12, 13, 14, 15, 16, 17, 18, 19, 20, 21, 22, 23, 24, 25, 26, 27, 28, 29, 30, 31, 32, 33, 34], [0, 1, 2, 3, 4, 5, 6, 7, 8, 9, 10, 11, 12, 13, 14, 15, 16, 17, 18, 19, 20, 21, 22, 23, 24, 25, 26, 27, 28, 29, 30, 31, 32, 33, 34, 35], [0, 1, 2, 3, 4, 5, 6, 7, 8, 9, 10, 11, 12, 13, 14, 15, 16, 17, 18, 19, 20, 21, 22, 23, 24, 25, 26, 27, 28, 29, 30, 31, 32, 33, 34, 35, 36], [0, 1, 2, 3, 4, 5, 6, 7, 8, 9, 10, 11, 12, 13, 14, 15, 16, 17, 18, 19, 20, 21, 22, 23, 24, 25, 26, 27, 28, 29, 30, 31, 32, 33, 34, 35, 36, 37]]) [[0, 1, 2, 3, 4, 5, 6, 7, 8, 9, 10, 11, 12, 13, 14, 15, 16, 17, 18, 19, 20, 21, 22, 23, 24, 25, 26, 27, 28, 30, 31, 32, 33, 29, 34, 35, 36, 37, 38], [0, 1, 2, 3, 4, 5, 6, 7, 8, 9, 10, 11, 12, 13, 14, 15, 16, 17, 18, 19, 20, 21, 22, 23, 24, 25, 26, 27, 28, 30, 31, 32, 33, 34, 29, 35, 36, 37, 38]] (by kernel_rfl) (by kernel_rfl) (NoPanic.seq (NoPanic.block (NoPanic.seq (NoPanic.seq (NoPanic.block (NoPanic.seq (NoPanic.body))))))) ?_
            have hS3640 := hS3406.drew
            revert hS3640
            generalize World.drew w3405 = w3639
            intro hS3640
            refine ⟨⟨blk_cell (hS3640.rd 0).1 5 rfl, hS3640.cell 0 rfl _ (cases8 (Q := fun z_ => (#[(.slice A_p1_Cells p1.Cells.length c_p1_Cells), (.int .i64 p1.South.e0), (.int .i64 p1.South.e1), (.int .i64 p1.South.e2), (.int .i64 p1.South.e3), (.int .i64 p1.South.e4), (.int .i64 p1.South.e5), (.int .i64 p1.South.e6), (.int .i64 p1.South.e7), (.int .i64 p1.North.e0), (.int .i64 p1.North.e1), (.int .i64 p1.North.e2), (.int .i64 p1.North.e3), (.int .i64 p1.North.e4), (.int .i64 p1.North.e5), (.int .i64 p1.North.e6), (.int .i64 p1.North.e7), (.int .i64 p1.West), (.int .i64 p1.East)] : Array Value)[1 + z_.toNat * 1]? = some (.int .i64 (A8_Int.get p1.South z_))) h3642 (by kernel_rfl) (by kernel_rfl) (by kernel_rfl) (by kernel_rfl) (by kernel_rfl) (by kernel_rfl) (by kernel_rfl) (by kernel_rfl)), trivial⟩, forallC ?_ (forallC ?_ (forallN))⟩
            ·
              refine seg 3 [] [0, 2, 4, 7, 33, 34, 39] [(0, (.pointer (some ⟨g_p0, 0, none⟩))), (2, (.int .i64 p2)), (4, (.pointer (some ⟨g2806, 0, none⟩))), (7, (.int .i64 x3401)), (33, (.int .i64 p0.width)), (34, (.int .i64 x3401)), (39, (.bool (p2 == 0)))] [] (fun fb => by kernel_rfl) rfl trivial ?_
              refine WL.setB 39 h3546 rfl ?_
              refine segF 13 [.v (.slice A_p0_edges_South p0.edges.South.length c_p0_edges_South), .v (.int .i64 (A8_Int.get p1.South x3401))] [0, 2, 4, 7, 33, 34, 39, 44, 45, 49] [(0, (.pointer (some ⟨g_p0, 0, none⟩))), (2, (.int .i64 p2)), (4, (.pointer (some ⟨g2806, 0, none⟩))), (7, (.int .i64 x3401)), (33, (.int .i64 p0.width)), (34, (.int .i64 x3401)), (39, (.bool true)), (44, (.slice A_p0_edges_South p0.edges.South.length c_p0_edges_South)), (45, (.int .i64 x3401)), (49, (.int .i64 (A8_Int.get p1.South x3401)))] [.idx (some ⟨0, 0, none⟩) x3401 8] [0, 1] [(7, ⟨g_p0, 5, none⟩, (.slice A_p0_edges_South p0.edges.South.length c_p0_edges_South)), (12, (flatA ⟨g2806, 1, none⟩ (x3401.toNat * 1)), (.int .i64 (A8_Int.get p1.South x3401)))] (fun fb => by kernel_rfl) rfl ⟨⟨h3642.1, h3642.2, rfl⟩, trivial⟩ rfl ?_
              obtain ⟨t3643, ht3644, hx3545⟩ := bind_some hx3545
              refine WL.call (some 50) 68 #[(.slice A_p0_edges_South p0.edges.South.length c_p0_edges_South), (.int .i64 x3401), (.int .i64 (A8_Int.get p1.South x3401))] (fun fb => by kernel_rfl) (fill_at_calls p0.edges.South x3401 (A8_Int.get p1.South x3401) A_p0_edges_South c_p0_edges_South t3643 _ (hS3640.rd 5) ht3644) (fun v w3645 hR3646 => ?_)
              obtain ⟨rfl, hk_⟩ := hR3646
              have hS3647 := hS3640.keepN hk_
              refine ⟨trivial, ?_⟩
              refine seg 17 [] [0, 2, 4, 7, 33, 34, 53] [(0, (.pointer (some ⟨g_p0, 0, none⟩))), (2, (.int .i64 p2)), (4, (.pointer (some ⟨g2806, 0, none⟩))), (7, (.int .i64 x3401)), (33, (.int .i64 p0.width)), (34, (.int .i64 x3401)), (53, (.bool (!t3643)))] [] (fun fb => by kernel_rfl) rfl trivial ?_
              refine WL.cutV (T := Bool) 39 (fun t => [(75, (.bool t)), (0, (.pointer (some ⟨g_p0, 0, none⟩))), (2, (.int .i64 p2)), (4, (.pointer (some ⟨g2806, 0, none⟩))), (33, (.int .i64 p0.width)), (34, (.int .i64 x3401))]) (fun t => (!t3643) = t) (fun K => ?_) ?_
              ·
                rcases Bool.eq_false_or_eq_true (!t3643) with h3648 | h3648
                ·
                  refine WL.setB 53 h3648 rfl ?_
                  refine seg 39 [] [0, 2, 4, 33, 34, 75] [(0, (.pointer (some ⟨g_p0, 0, none⟩))), (2, (.int .i64 p2)), (4, (.pointer (some ⟨g2806, 0, none⟩))), (33, (.int .i64 p0.width)), (34, (.int .i64 x3401)), (75, (.bool true))] [] (fun fb => by kernel_rfl) rfl trivial ?_
                  exact WL.toV K true [75, 0, 2, 4, 33, 34] rfl (by first | (rw [h3648]; done) | (rw [h3648]; rfl))
                refine WL.setB 53 h3648 rfl ?_
                refine seg 25 [.v (.int .i64 p0.height)] [0, 2, 4, 7, 33, 34, 53, 61] [(0, (.pointer (some ⟨g_p0, 0, none⟩))), (2, (.int .i64 p2)), (4, (.pointer (some ⟨g2806, 0, none⟩))), (7, (.int .i64 x3401)), (33, (.int .i64 p0.width)), (34, (.int .i64 x3401)), (53, (.bool false)), (61, (.bool (p2 == (w64 (p0.height - 1)))))] [.cell ⟨g_p0, 2, none⟩ (.int .i64 p0.height)] (fun fb => by kernel_rfl) rfl ⟨blk_cell (hS3647.rd 0).1 2 rfl, trivial⟩ ?_
                refine WL.setB 61 h3553 rfl ?_
                refine seg 39 [] [0, 2, 4, 33, 34, 75] [(0, (.pointer (some ⟨g_p0, 0, none⟩))), (2, (.int .i64 p2)), (4, (.pointer (some ⟨g2806, 0, none⟩))), (33, (.int .i64 p0.width)), (34, (.int .i64 x3401)), (75, (.bool false))] [] (fun fb => by kernel_rfl) rfl trivial ?_
                exact WL.toV K false [75, 0, 2, 4, 33, 34] rfl (by first | (rw [h3648]; done) | (rw [h3648]; rfl))
              rintro b3649 rfl
              refine WL.done rfl ?_
              injection hx3545 with hx3545
              exact WX.to Kx3544 (!t3643) [0, 2, 4, 33, 34, 75] rfl ⟨(hS3647.subR [0, 1, 2, 3, 4, 5, 6, 7]).sub [0] (by decide), hx3545.symm⟩
            refine seg 3 [] [0, 2, 4, 7, 33, 34, 39] [(0, (.pointer (some ⟨g_p0, 0, none⟩))), (2, (.int .i64 p2)), (4, (.pointer (some ⟨g2806, 0, none⟩))), (7, (.int .i64 x3401)), (33, (.int .i64 p0.width)), (34, (.int .i64 x3401)), (39, (.bool (p2 == 0)))] [] (fun fb => by kernel_rfl) rfl trivial ?_
            refine WL.setB 39 h3546 rfl ?_
            refine segF 13 [.v (.slice A_p0_edges_South p0.edges.South.length c_p0_edges_South), .v (.int .i64 (A8_Int.get p1.South x3401))] [0, 2, 4, 7, 33, 34, 39, 44, 45, 49] [(0, (.pointer (some ⟨g_p0, 0, none⟩))), (2, (.int .i64 p2)), (4, (.pointer (some ⟨g2806, 0, none⟩))), (7, (.int .i64 x3401)), (33, (.int .i64 p0.width)), (34, (.int .i64 x3401)), (39, (.bool true)), (44, (.slice A_p0_edges_South p0.edges.South.length c_p0_edges_South)), (45, (.int .i64 x3401)), (49, (.int .i64 (A8_Int.get p1.South x3401)))] [.idx (some ⟨0, 0, none⟩) x3401 8] [0, 1] [(7, ⟨g_p0, 5, none⟩, (.slice A_p0_edges_South p0.edges.South.length c_p0_edges_South)), (12, (flatA ⟨g2806, 1, none⟩ (x3401.toNat * 1)), (.int .i64 (A8_Int.get p1.South x3401)))] (fun fb => by kernel_rfl) rfl ⟨⟨h3642.1, h3642.2, rfl⟩, trivial⟩ rfl ?_
            obtain ⟨t3650, ht3651, hx3545⟩ := bind_some hx3545
            refine WL.call (some 50) 68 #[(.slice A_p0_edges_South p0.edges.South.length c_p0_edges_South), (.int .i64 x3401), (.int .i64 (A8_Int.get p1.South x3401))] (fun fb => by kernel_rfl) (fill_at_calls p0.edges.South x3401 (A8_Int.get p1.South x3401) A_p0_edges_South c_p0_edges_South t3650 _ (hS3640.rd 5) ht3651) (fun v w3652 hR3653 => ?_)
            obtain ⟨rfl, hk_⟩ := hR3653
            have hS3654 := hS3640.keepN hk_
            refine ⟨trivial, ?_⟩
            refine seg 17 [] [0, 2, 4, 7, 33, 34, 53] [(0, (.pointer (some ⟨g_p0, 0, none⟩))), (2, (.int .i64 p2)), (4, (.pointer (some ⟨g2806, 0, none⟩))), (7, (.int .i64 x3401)), (33, (.int .i64 p0.width)), (34, (.int .i64 x3401)), (53, (.bool (!t3650)))] [] (fun fb => by kernel_rfl) rfl trivial ?_
            refine WL.cutV (T := Bool) 39 (fun t => [(75, (.bool t)), (0, (.pointer (some ⟨g_p0, 0, none⟩))), (2, (.int .i64 p2)), (4, (.pointer (some ⟨g2806, 0, none⟩))), (33, (.int .i64 p0.width)), (34, (.int .i64 x3401))]) (fun t => (!t3650) = t) (fun K => ?_) ?_
            ·
              rcases Bool.eq_false_or_eq_true (!t3650) with h3655 | h3655
              ·
                refine WL.setB 53 h3655 rfl ?_
                refine seg 39 [] [0, 2, 4, 33, 34, 75] [(0, (.pointer (some ⟨g_p0, 0, none⟩))), (2, (.int .i64 p2)), (4, (.pointer (some ⟨g2806, 0, none⟩))), (33, (.int .i64 p0.width)), (34, (.int .i64 x3401)), (75, (.bool true))] [] (fun fb => by kernel_rfl) rfl trivial ?_
                exact WL.toV K true [75, 0, 2, 4, 33, 34] rfl (by first | (rw [h3655]; done) | (rw [h3655]; rfl))
              refine WL.setB 53 h3655 rfl ?_
              refine seg 25 [.v (.int .i64 p0.height)] [0, 2, 4, 7, 33, 34, 53, 61] [(0, (.pointer (some ⟨g_p0, 0, none⟩))), (2, (.int .i64 p2)), (4, (.pointer (some ⟨g2806, 0, none⟩))), (7, (.int .i64 x3401)), (33, (.int .i64 p0.width)), (34, (.int .i64 x3401)), (53, (.bool false)), (61, (.bool (p2 == (w64 (p0.height - 1)))))] [.cell ⟨g_p0, 2, none⟩ (.int .i64 p0.height)] (fun fb => by kernel_rfl) rfl ⟨blk_cell (hS3654.rd 0).1 2 rfl, trivial⟩ ?_
              refine WL.setB 61 h3553 rfl ?_
              refine seg 39 [] [0, 2, 4, 33, 34, 75] [(0, (.pointer (some ⟨g_p0, 0, none⟩))), (2, (.int .i64 p2)), (4, (.pointer (some ⟨g2806, 0, none⟩))), (33, (.int .i64 p0.width)), (34, (.int .i64 x3401)), (75, (.bool false))] [] (fun fb => by kernel_rfl) rfl trivial ?_
              exact WL.toV K false [75, 0, 2, 4, 33, 34] rfl (by first | (rw [h3655]; done) | (rw [h3655]; rfl))
            rintro b3656 rfl
            refine WL.done rfl ?_
            injection hx3545 with hx3545
            exact WX.to Kx3544 (!t3650) [0, 2, 4, 33, 34, 75] rfl ⟨(hS3654.subR [0, 1, 2, 3, 4, 5, 6, 7]).sub [0] (by decide), hx3545.symm⟩
          rcases br_some hx3545 with ⟨h3657, hx3545⟩ | ⟨h3657, hx3545⟩
          ·
            refine WC.regionD ([], [0, 1, 2, 3, 4, 5, 6, 7, 8, 9, 10, 11, 12, 14, 15, 16, 17, 18, 19, 20, 22, 23, 24, 25, 26, 27, 28, 30, 31, 32, 33, 36, 37, 38], [[], [0], [0, 1], [0, 1, 2], [0, 1, 2, 3], [0, 1, 2, 3, 4], [0, 1, 2, 3, 4, 5], [0, 1, 2, 3, 4, 5, 6], [0, 1, 2], [0, 1, 2], [0, 1, 2], [0, 1, 2, 9, 10], [0, 1, 2, 9, 10, 11], [0, 1, 2, 3, 4, 5, 6, 7, 8, 9, 10, 11, 12], [0, 1, 2, 3, 4, 5, 6, 7, 8, 9, 10, 11, 12, 13], [0, 1, 2, 3, 4, 5, 6, 7, 8, 9, 10, 11, 12, 13, 14], [0, 1, 2, 3, 4, 5, 6, 7, 8, 9, 10, 11, 12, 13, 14, 15], [0, 1, 2, 3, 4, 5, 6, 7, 8, 9, 10, 11, 12, 13, 14, 15, 16], [0, 1, 2, 3, 4, 5, 6, 7, 8, 9, 10, 11, 12, 13, 14, 15, 16], [0, 1, 2, 3, 4, 5, 6, 7, 8, 9, 10, 11, 12, 13, 14, 15, 16, 18], [0, 1, 2, 3, 4, 5, 6, 7, 8, 9, 10, 11, 12, 13, 14, 15, 16, 18, 19], [0, 1, 2, 3, 4, 5, 6, 7, 8, 9, 10, 11, 12, 13, 14, 15, 16, 18, 19, 20], [0, 1, 2, 3, 4, 5, 6, 7, 8, 9, 10, 11, 12, 13, 14, 15, 16, 18, 19, 20, 21], [0, 1, 2, 3, 4, 5, 6, 7, 8, 9, 10, 11, 12, 13, 14, 15, 16, 17, 18, 19, 20, 21, 22], [0, 1, 2, 3, 4, 5, 6, 7, 8, 9, 10, 11, 12, 13, 14, 15, 16, 17, 18, 19, 20, 21, 22, 23], [0, 1, 2, 3, 4, 5, 6, 7, 8, 9, 10, 11, 12, 13, 14, 15, 16, 17, 18, 19, 20, 21, 22, 23, 24], [0, 1, 2, 3, 4, 5, 6, 7, 8, 9, 10, 11, 12, 13, 14, 15, 16, 17, 18, 19, 20, 21, 22, 23, 24, 25], [0, 1, 2, 3, 4, 5, 6, 7, 8, 9, 10, 11, 12, 13, 14, 15, 16, 17, 18, 19, 20, 21, 22, 23, 24, 25, 26], [0, 1, 2, 3, 4, 5, 6, 7, 8, 9, 10, 11, 12, 13, 14, 15, 16, 17, 18, 19, 20, 21, 22, 23, 24, 25, 26, 27], [0, 1, 2, 3, 4, 5, 6, 7, 8, 9, 10, 11, 12, 13, 14, 15, 16, 17, 18, 19, 20, 21, 22, 23, 24, 25, 26, 27, 28], [0, 1, 2, 3, 4, 5, 6, 7, 8, 9, 10, 11, 12, 13, 14, 15, 16, 17, 18, 19, 20, 21, 22, 23, 24], [0, 1, 2, 3, 4, 5, 6, 7, 8, 9, 10, 11, 12, 13, 14, 15, 16, 17, 18, 19, 20, 21, 22, 23, 24], [0, 1, 2, 3, 4, 5, 6, 7, 8, 9, 10, 11, 12, 13, 14, 15, 16, 17, 18, 19, 20, 21, 22, 23, 24], [0, 1, 2, 3, 4, 5, 6, 7, 8, 9, 10, 11, 12, 13, 14, 15, 16, 17, 18, 19, 20, 21, 22, 23, 24, 31, 32], [0, 1, 2, 3, 4, 5, 6, 7, 8, 9, 10, 11, 12, 13, 14, 15, 16, 17, 18, 19, 20, 21, 22, 23, 24, 31, 32, 33], [0, 1, 2, 3, 4, 5, 6, 7, 8, 9, 10, 11, 12, 13, 14, 15, 16, 17, 18, 19, 20, 21, 22, 23, 24, 25, 26, 27, 28, 29, 30, 31, 32, 33, 34], [0, 1, 2, 3, 4, 5, 6, 7, 8, 9, 10, 11, 12, 13, 14, 15, 16, 17, 18, 19, 20, 21, 22, 23, 24, 25, 26, 27, 28, 29, 30, 31, 32, 33, 34, 35], [0, 1, 2, 3, 4, 5, 6, 7, 8, 9, 10, 11, 12, 13, 14, 15, 16, 17, 18, 19, 20, 21, 22, 23, 24, 25, 26, 27, 28, 29, 30, 31, 32, 33, 34, 35, 36], [0, 1, 2, 3, 4, 5, 6, 7, 8, 9, 10, 11, 12, 13, 14, 15, 16, 17, 18, 19, 20, 21, 22, 23, 24, 25, 26, 27, 28, 29, 30, 31, 32, 33, 34, 35, 36, 37]]) [[0, 1, 2, 3, 4, 5, 6, 7, 8, 9, 10, 11, 12, 13, 14, 15, 16, 17, 18, 19, 20, 21, 22, 23, 24, 25, 26, 27, 28, 30, 31, 32, 33, 29, 34, 35, 36, 37, 38], [0, 1, 2, 3, 4, 5, 6, 7, 8, 9, 10, 11, 12, 13, 14, 15, 16, 17, 18, 19, 20, 21, 22, 23, 24, 25, 26, 27, 28, 30, 31, 32, 33, 34, 29, 35, 36, 37, 38]] (by kernel_rfl) (by kernel_rfl) (NoPanic.seq (NoPanic.block (NoPanic.seq (NoPanic.seq (NoPanic.block (NoPanic.seq (NoPanic.body))))))) ?_
            have hS3665 := hS3406.drew
            revert hS3665
            generalize World.drew w3405 = w3664
            intro hS3665
            refine ⟨trivial, forallC ?_ (forallC ?_ (forallN))⟩
            ·
              refine seg 3 [] [0, 2, 4, 7, 33, 34, 39] [(0, (.pointer (some ⟨g_p0, 0, none⟩))), (2, (.int .i64 p2)), (4, (.pointer (some ⟨g2806, 0, none⟩))), (7, (.int .i64 x3401)), (33, (.int .i64 p0.width)), (34, (.int .i64 x3401)), (39, (.bool (p2 == 0)))] [] (fun fb => by kernel_rfl) rfl trivial ?_
              refine WL.setB 39 h3546 rfl ?_
              refine seg 25 [.v (.int .i64 p0.height)] [0, 2, 4, 7, 33, 34, 53, 61] [(0, (.pointer (some ⟨g_p0, 0, none⟩))), (2, (.int .i64 p2)), (4, (.pointer (some ⟨g2806, 0, none⟩))), (7, (.int .i64 x3401)), (33, (.int .i64 p0.width)), (34, (.int .i64 x3401)), (53, (.bool false)), (61, (.bool (p2 == (w64 (p0.height - 1)))))] [.cell ⟨g_p0, 2, none⟩ (.int .i64 p0.height)] (fun fb => by kernel_rfl) rfl ⟨blk_cell (hS3665.rd 0).1 2 rfl, trivial⟩ ?_
              refine WL.setB 61 h3657 rfl ?_
              refine seg 32 [] [0, 2, 4, 33, 34, 53, 61, 65, 67, 68, 69] [(0, (.pointer (some ⟨g_p0, 0, none⟩))), (2, (.int .i64 p2)), (4, (.pointer (some ⟨g2806, 0, none⟩))), (33, (.int .i64 p0.width)), (34, (.int .i64 x3401)), (53, (.bool false)), (61, (.bool true)), (65, (.pointer (some ⟨g_p0, 3, none⟩))), (67, (.int .i64 x3401)), (68, (.int .i64 x3401)), (69, (.pointer (some ⟨g2806, 9, none⟩)))] [] (fun fb => by kernel_rfl) rfl trivial ?_
              obtain ⟨h3666, hx3545⟩ := as_some hx3545
              refine seg 35 [.v (.slice A_p0_edges_North p0.edges.North.length c_p0_edges_North), .v (.int .i64 (A8_Int.get p1.North x3401))] [0, 2, 4, 33, 34, 53, 61, 66, 67, 71] [(0, (.pointer (some ⟨g_p0, 0, none⟩))), (2, (.int .i64 p2)), (4, (.pointer (some ⟨g2806, 0, none⟩))), (33, (.int .i64 p0.width)), (34, (.int .i64 x3401)), (53, (.bool false)), (61, (.bool true)), (66, (.slice A_p0_edges_North p0.edges.North.length c_p0_edges_North)), (67, (.int .i64 x3401)), (71, (.int .i64 (A8_Int.get p1.North x3401)))] [.idx (some ⟨0, 0, none⟩) x3401 8, .cell ⟨g_p0, 3, none⟩ (.slice A_p0_edges_North p0.edges.North.length c_p0_edges_North), .cell (flatA ⟨g2806, 9, none⟩ (x3401.toNat * 1)) (.int .i64 (A8_Int.get p1.North x3401))] (fun fb => by kernel_rfl) rfl ⟨⟨h3666.1, h3666.2, rfl⟩, blk_cell (hS3665.rd 0).1 3 rfl, hS3665.cell 0 rfl _ (cases8 (Q := fun z_ => (#[(.slice A_p1_Cells p1.Cells.length c_p1_Cells), (.int .i64 p1.South.e0), (.int .i64 p1.South.e1), (.int .i64 p1.South.e2), (.int .i64 p1.South.e3), (.int .i64 p1.South.e4), (.int .i64 p1.South.e5), (.int .i64 p1.South.e6), (.int .i64 p1.South.e7), (.int .i64 p1.North.e0), (.int .i64 p1.North.e1), (.int .i64 p1.North.e2), (.int .i64 p1.North.e3), (.int .i64 p1.North.e4), (.int .i64 p1.North.e5), (.int .i64 p1.North.e6), (.int .i64 p1.North.e7), (.int .i64 p1.West), (.int .i64 p1.East)] : Array Value)[9 + z_.toNat * 1]? = some (.int .i64 (A8_Int.get p1.North z_))) h3666 (by kernel_rfl) (by kernel_rfl) (by kernel_rfl) (by kernel_rfl) (by kernel_rfl) (by kernel_rfl) (by kernel_rfl) (by kernel_rfl)), trivial⟩ ?_
              obtain ⟨t3667, ht3668, hx3545⟩ := bind_some hx3545
              refine WL.call (some 72) 68 #[(.slice A_p0_edges_North p0.edges.North.length c_p0_edges_North), (.int .i64 x3401), (.int .i64 (A8_Int.get p1.North x3401))] (fun fb => by kernel_rfl) (fill_at_calls p0.edges.North x3401 (A8_Int.get p1.North x3401) A_p0_edges_North c_p0_edges_North t3667 _ (hS3665.rd 3) ht3668) (fun v w3669 hR3670 => ?_)
              obtain ⟨rfl, hk_⟩ := hR3670
              have hS3671 := hS3665.keepN hk_
              refine ⟨trivial, ?_⟩
              refine seg 39 [] [0, 2, 4, 33, 34, 75] [(0, (.pointer (some ⟨g_p0, 0, none⟩))), (2, (.int .i64 p2)), (4, (.pointer (some ⟨g2806, 0, none⟩))), (33, (.int .i64 p0.width)), (34, (.int .i64 x3401)), (75, (.bool (!t3667)))] [] (fun fb => by kernel_rfl) rfl trivial ?_
              refine WL.done rfl ?_
              injection hx3545 with hx3545
              exact WX.to Kx3544 (!t3667) [0, 2, 4, 33, 34, 75] rfl ⟨(hS3671.subR [0, 1, 2, 3, 4, 5, 6, 7]).sub [0] (by decide), hx3545.symm⟩
            refine seg 3 [] [0, 2, 4, 7, 33, 34, 39] [(0, (.pointer (some ⟨g_p0, 0, none⟩))), (2, (.int .i64 p2)), (4, (.pointer (some ⟨g2806, 0, none⟩))), (7, (.int .i64 x3401)), (33, (.int .i64 p0.width)), (34, (.int .i64 x3401)), (39, (.bool (p2 == 0)))] [] (fun fb => by kernel_rfl) rfl trivial ?_
            refine WL.setB 39 h3546 rfl ?_
            refine seg 25 [.v (.int .i64 p0.height)] [0, 2, 4, 7, 33, 34, 53, 61] [(0, (.pointer (some ⟨g_p0, 0, none⟩))), (2, (.int .i64 p2)), (4, (.pointer (some ⟨g2806, 0, none⟩))), (7, (.int .i64 x3401)), (33, (.int .i64 p0.width)), (34, (.int .i64 x3401)), (53, (.bool false)), (61, (.bool (p2 == (w64 (p0.height - 1)))))] [.cell ⟨g_p0, 2, none⟩ (.int .i64 p0.height)] (fun fb => by kernel_rfl) rfl ⟨blk_cell (hS3665.rd 0).1 2 rfl, trivial⟩ ?_
            refine WL.setB 61 h3657 rfl ?_
            refine seg 32 [] [0, 2, 4, 33, 34, 53, 61, 65, 67, 68, 69] [(0, (.pointer (some ⟨g_p0, 0, none⟩))), (2, (.int .i64 p2)), (4, (.pointer (some ⟨g2806, 0, none⟩))), (33, (.int .i64 p0.width)), (34, (.int .i64 x3401)), (53, (.bool false)), (61, (.bool true)), (65, (.pointer (some ⟨g_p0, 3, none⟩))), (67, (.int .i64 x3401)), (68, (.int .i64 x3401)), (69, (.pointer (some ⟨g2806, 9, none⟩)))] [] (fun fb => by kernel_rfl) rfl trivial ?_
            obtain ⟨h3672, hx3545⟩ := as_some hx3545
            refine seg 35 [.v (.int .i64 (A8_Int.get p1.North x3401)), .v (.slice A_p0_edges_North p0.edges.North.length c_p0_edges_North)] [0, 2, 4, 33, 34, 53, 61, 66, 67, 71] [(0, (.pointer (some ⟨g_p0, 0, none⟩))), (2, (.int .i64 p2)), (4, (.pointer (some ⟨g2806, 0, none⟩))), (33, (.int .i64 p0.width)), (34, (.int .i64 x3401)), (53, (.bool false)), (61, (.bool true)), (66, (.slice A_p0_edges_North p0.edges.North.length c_p0_edges_North)), (67, (.int .i64 x3401)), (71, (.int .i64 (A8_Int.get p1.North x3401)))] [.idx (some ⟨0, 0, none⟩) x3401 8, .cell (flatA ⟨g2806, 9, none⟩ (x3401.toNat * 1)) (.int .i64 (A8_Int.get p1.North x3401)), .cell ⟨g_p0, 3, none⟩ (.slice A_p0_edges_North p0.edges.North.length c_p0_edges_North)] (fun fb => by kernel_rfl) rfl ⟨⟨h3672.1, h3672.2, rfl⟩, hS3665.cell 0 rfl _ (cases8 (Q := fun z_ => (#[(.slice A_p1_Cells p1.Cells.length c_p1_Cells), (.int .i64 p1.South.e0), (.int .i64 p1.South.e1), (.int .i64 p1.South.e2), (.int .i64 p1.South.e3), (.int .i64 p1.South.e4), (.int .i64 p1.South.e5), (.int .i64 p1.South.e6), (.int .i64 p1.South.e7), (.int .i64 p1.North.e0), (.int .i64 p1.North.e1), (.int .i64 p1.North.e2), (.int .i64 p1.North.e3), (.int .i64 p1.North.e4), (.int .i64 p1.North.e5), (.int .i64 p1.North.e6), (.int .i64 p1.North.e7), (.int .i64 p1.West), (.int .i64 p1.East)] : Array Value)[9 + z_.toNat * 1]? = some (.int .i64 (A8_Int.get p1.North z_))) h3672 (by kernel_rfl) (by kernel_rfl) (by kernel_rfl) (by kernel_rfl) (by kernel_rfl) (by kernel_rfl) (by kernel_rfl) (by kernel_rfl)), blk_cell (hS3665.rd 0).1 3 rfl, trivial⟩ ?_
            obtain ⟨t3673, ht3674, hx3545⟩ := bind_some hx3545
            refine WL.call (some 72) 68 #[(.slice A_p0_edges_North p0.edges.North.length c_p0_edges_North), (.int .i64 x3401), (.int .i64 (A8_Int.get p1.North x3401))] (fun fb => by kernel_rfl) (fill_at_calls p0.edges.North x3401 (A8_Int.get p1.North x3401) A_p0_edges_North c_p0_edges_North t3673 _ (hS3665.rd 3) ht3674) (fun v w3675 hR3676 => ?_)
            obtain ⟨rfl, hk_⟩ := hR3676
            have hS3677 := hS3665.keepN hk_
            refine ⟨trivial, ?_⟩
            refine seg 39 [] [0, 2, 4, 33, 34, 75] [(0, (.pointer (some ⟨g_p0, 0, none⟩))), (2, (.int .i64 p2)), (4, (.pointer (some ⟨g2806, 0, none⟩))), (33, (.int .i64 p0.width)), (34, (.int .i64 x3401)), (75, (.bool (!t3673)))] [] (fun fb => by kernel_rfl) rfl trivial ?_
            refine WL.done rfl ?_
            injection hx3545 with hx3545
            exact WX.to Kx3544 (!t3673) [0, 2, 4, 33, 34, 75] rfl ⟨(hS3677.subR [0, 1, 2, 3, 4, 5, 6, 7]).sub [0] (by decide), hx3545.symm⟩
          refine WC.regionD ([], [0, 1, 2, 3, 4, 5, 6, 7, 8, 9, 10, 11, 12, 14, 15, 16, 17, 18, 19, 20, 22, 23, 24, 25, 26, 27, 28, 30, 31, 32, 33, 36, 37, 38], [[], [0], [0, 1], [0, 1, 2], [0, 1, 2, 3], [0, 1, 2, 3, 4], [0, 1, 2, 3, 4, 5], [0, 1, 2, 3, 4, 5, 6], [0, 1, 2], [0, 1, 2], [0, 1, 2], [0, 1, 2, 9, 10], [0, 1, 2, 9, 10, 11], [0, 1, 2, 3, 4, 5, 6, 7, 8, 9, 10, 11, 12], [0, 1, 2, 3, 4, 5, 6, 7, 8, 9, 10, 11, 12, 13], [0, 1, 2, 3, 4, 5, 6, 7, 8, 9, 10, 11, 12, 13, 14], [0, 1, 2, 3, 4, 5, 6, 7, 8, 9, 10, 11, 12, 13, 14, 15], [0, 1, 2, 3, 4, 5, 6, 7, 8, 9, 10, 11, 12, 13, 14, 15, 16], [0, 1, 2, 3, 4, 5, 6, 7, 8, 9, 10, 11, 12, 13, 14, 15, 16], [0, 1, 2, 3, 4, 5, 6, 7, 8, 9, 10, 11, 12, 13, 14, 15, 16, 18], [0, 1, 2, 3, 4, 5, 6, 7, 8, 9, 10, 11, 12, 13, 14, 15, 16, 18, 19], [0, 1, 2, 3, 4, 5, 6, 7, 8, 9, 10, 11, 12, 13, 14, 15, 16, 18, 19, 20], [0, 1, 2, 3, 4, 5, 6, 7, 8, 9, 10, 11, 12, 13, 14, 15, 16, 18, 19, 20, 21], [0, 1, 2, 3, 4, 5, 6, 7, 8, 9, 10, 11, 12, 13, 14, 15, 16, 17, 18, 19, 20, 21, 22], [0, 1, 2, 3, 4, 5, 6, 7, 8, 9, 10, 11, 12, 13, 14, 15, 16, 17, 18, 19, 20, 21, 22, 23], [0, 1, 2, 3, 4, 5, 6, 7, 8, 9, 10, 11, 12, 13, 14, 15, 16, 17, 18, 19, 20, 21, 22, 23, 24], [0, 1, 2, 3, 4, 5, 6, 7, 8, 9, 10, 11, 12, 13, 14, 15, 16, 17, 18, 19, 20, 21, 22, 23, 24, 25], [0, 1, 2, 3, 4, 5, 6, 7, 8, 9, 10, 11, 12, 13, 14, 15, 16, 17, 18, 19, 20, 21, 22, 23, 24, 25, 26], [0, 1, 2, 3, 4, 5, 6, 7, 8, 9, 10, 11, 12, 13, 14, 15, 16, 17, 18, 19, 20, 21, 22, 23, 24, 25, 26, 27], [0, 1, 2, 3, 4, 5, 6, 7, 8, 9, 10, 11, 12, 13, 14, 15, 16, 17, 18, 19, 20, 21, 22, 23, 24, 25, 26, 27, 28], [0, 1, 2, 3, 4, 5, 6, 7, 8, 9, 10, 11, 12, 13, 14, 15, 16, 17, 18, 19, 20, 21, 22, 23, 24], [0, 1, 2, 3, 4, 5, 6, 7, 8, 9, 10, 11, 12, 13, 14, 15, 16, 17, 18, 19, 20, 21, 22, 23, 24], [0, 1, 2, 3, 4, 5, 6, 7, 8, 9, 10, 11, 12, 13, 14, 15, 16, 17, 18, 19, 20, 21, 22, 23, 24], [0, 1, 2, 3, 4, 5, 6, 7, 8, 9, 10, 11, 12, 13, 14, 15, 16, 17, 18, 19, 20, 21, 22, 23, 24, 31, 32], [0, 1, 2, 3, 4, 5, 6, 7, 8, 9, 10, 11, 12, 13, 14, 15, 16, 17, 18, 19, 20, 21, 22, 23, 24, 31, 32, 33], [0, 1, 2, 3, 4, 5, 6, 7, 8, 9, 10, 11, 12, 13, 14, 15, 16, 17, 18, 19, 20, 21, 22, 23, 24, 25, 26, 27, 28, 29, 30, 31, 32, 33, 34], [0, 1, 2, 3, 4, 5, 6, 7, 8, 9, 10, 11, 12, 13, 14, 15, 16, 17, 18, 19, 20, 21, 22, 23, 24, 25, 26, 27, 28, 29, 30, 31, 32, 33, 34, 35], [0, 1, 2, 3, 4, 5, 6, 7, 8, 9, 10, 11, 12, 13, 14, 15, 16, 17, 18, 19, 20, 21, 22, 23, 24, 25, 26, 27, 28, 29, 30, 31, 32, 33, 34, 35, 36], [0, 1, 2, 3, 4, 5, 6, 7, 8, 9, 10, 11, 12, 13, 14, 15, 16, 17, 18, 19, 20, 21, 22, 23, 24, 25, 26, 27, 28, 29, 30, 31, 32, 33, 34, 35, 36, 37]]) [[0, 1, 2, 3, 4, 5, 6, 7, 8, 9, 10, 11, 12, 13, 14, 15, 16, 17, 18, 19, 20, 21, 22, 23, 24, 25, 26, 27, 28, 30, 31, 32, 33, 29, 34, 35, 36, 37, 38], [0, 1, 2, 3, 4, 5, 6, 7, 8, 9, 10, 11, 12, 13, 14, 15, 16, 17, 18, 19, 20, 21, 22, 23, 24, 25, 26, 27, 28, 30, 31, 32, 33, 34, 29, 35, 36, 37, 38]] (by kernel_rfl) (by kernel_rfl) (NoPanic.seq (NoPanic.block (NoPanic.seq (NoPanic.seq (NoPanic.block (NoPanic.seq (NoPanic.body))))))) ?_
          have hS3679 := hS3406.drew
          revert hS3679
          generalize World.drew w3405 = w3678
          intro hS3679
          refine ⟨trivial, forallC ?_ (forallC ?_ (forallN))⟩
          ·
            refine seg 3 [] [0, 2, 4, 7, 33, 34, 39] [(0, (.pointer (some ⟨g_p0, 0, none⟩))), (2, (.int .i64 p2)), (4, (.pointer (some ⟨g2806, 0, none⟩))), (7, (.int .i64 x3401)), (33, (.int .i64 p0.width)), (34, (.int .i64 x3401)), (39, (.bool (p2 == 0)))] [] (fun fb => by kernel_rfl) rfl trivial ?_
            refine WL.setB 39 h3546 rfl ?_
            refine seg 25 [.v (.int .i64 p0.height)] [0, 2, 4, 7, 33, 34, 53, 61] [(0, (.pointer (some ⟨g_p0, 0, none⟩))), (2, (.int .i64 p2)), (4, (.pointer (some ⟨g2806, 0, none⟩))), (7, (.int .i64 x3401)), (33, (.int .i64 p0.width)), (34, (.int .i64 x3401)), (53, (.bool false)), (61, (.bool (p2 == (w64 (p0.height - 1)))))] [.cell ⟨g_p0, 2, none⟩ (.int .i64 p0.height)] (fun fb => by kernel_rfl) rfl ⟨blk_cell (hS3679.rd 0).1 2 rfl, trivial⟩ ?_
            refine WL.setB 61 h3657 rfl ?_
            refine seg 39 [] [0, 2, 4, 33, 34, 75] [(0, (.pointer (some ⟨g_p0, 0, none⟩))), (2, (.int .i64 p2)), (4, (.pointer (some ⟨g2806, 0, none⟩))), (33, (.int .i64 p0.width)), (34, (.int .i64 x3401)), (75, (.bool false))] [] (fun fb => by kernel_rfl) rfl trivial ?_
            refine WL.done rfl ?_
            injection hx3545 with hx3545
            exact WX.to Kx3544 false [0, 2, 4, 33, 34, 75] rfl ⟨(hS3679.subR [0, 1, 2, 3, 4, 5, 6, 7]).sub [0] (by decide), hx3545.symm⟩
          refine seg 3 [] [0, 2, 4, 7, 33, 34, 39] [(0, (.pointer (some ⟨g_p0, 0, none⟩))), (2, (.int .i64 p2)), (4, (.pointer (some ⟨g2806, 0, none⟩))), (7, (.int .i64 x3401)), (33, (.int .i64 p0.width)), (34, (.int .i64 x3401)), (39, (.bool (p2 == 0)))] [] (fun fb => by kernel_rfl) rfl trivial ?_
          refine WL.setB 39 h3546 rfl ?_
          refine seg 25 [.v (.int .i64 p0.height)] [0, 2, 4, 7, 33, 34, 53, 61] [(0, (.pointer (some ⟨g_p0, 0, none⟩))), (2, (.int .i64 p2)), (4, (.pointer (some ⟨g2806, 0, none⟩))), (7, (.int .i64 x3401)), (33, (.int .i64 p0.width)), (34, (.int .i64 x3401)), (53, (.bool false)), (61, (.bool (p2 == (w64 (p0.height - 1)))))] [.cell ⟨g_p0, 2, none⟩ (.int .i64 p0.height)] (fun fb => by kernel_rfl) rfl ⟨blk_cell (hS3679.rd 0).1 2 rfl, trivial⟩ ?_
          refine WL.setB 61 h3657 rfl ?_
          refine seg 39 [] [0, 2, 4, 33, 34, 75] [(0, (.pointer (some ⟨g_p0, 0, none⟩))), (2, (.int .i64 p2)), (4, (.pointer (some ⟨g2806, 0, none⟩))), (33, (.int .i64 p0.width)), (34, (.int .i64 x3401)), (75, (.bool false))] [] (fun fb => by kernel_rfl) rfl trivial ?_
          refine WL.done rfl ?_
          injection hx3545 with hx3545
          exact WX.to Kx3544 false [0, 2, 4, 33, 34, 75] rfl ⟨(hS3679.subR [0, 1, 2, 3, 4, 5, 6, 7]).sub [0] (by decide), hx3545.symm⟩
        rintro y3683 w3680 ⟨hS3681, hq3682⟩
        subst hq3682
        refine WX.next ?_
        rcases br_some hl3407 with ⟨h3684, hl3407⟩ | ⟨h3684, hl3407⟩
        · refine WC.condT2 (fun fb => by kernel_rfl) h3684 ?_
          refine WC.seq ?_
          refine WC.region ?_
          refine seg 1 [] [6] [(6, (.bool false))] [] (fun fb => by kernel_rfl) rfl trivial ?_
          refine WL.done rfl ?_
          refine WX.next ?_
          refine WC.ret ?_
          injection hl3407 with hl3407
          subst hl3407
          injection hf with hf
          subst hf
          exact WX.blockR (WX.thenR (WX.thenR (WX.blockR (WX.thenR (WX.ret_ [] (.bool false) [] (fun fb => by kernel_rfl) trivial ⟨_, rfl, rfl, hS3681.keep⟩)))))
        refine WC.condF2 (fun fb => by kernel_rfl) h3684 ?_
        refine WC.skip ?_
        refine WX.blockN (WX.next ?_)
        refine WC.region ?_
        refine seg 2 [] [0, 2, 4, 33, 34] [(0, (.pointer (some ⟨g_p0, 0, none⟩))), (2, (.int .i64 p2)), (4, (.pointer (some ⟨g2806, 0, none⟩))), (33, (.int .i64 p0.width)), (34, (.int .i64 (w64 (x3401 + 1))))] [] (fun fb => by kernel_rfl) rfl trivial ?_
        refine WL.done rfl ?_
        exact WX.again k3404 (Nat.lt_succ_self _) (w64 (x3401 + 1)) [0, 2, 4, 33, 34] rfl ⟨(hS3681.subR [0, 1, 2, 3, 4, 5, 6, 7]).sub [0] (by decide), hl3407⟩
      refine WC.condF2 (fun fb => by kernel_rfl) h3408 ?_
      refine WC.exit ?_
      injection hl3407 with hl3407
      exact WX.thenX (WX.thenX (WX.blockHere (WX.to Kx3402 () [] rfl ⟨(hS3406.subR [0, 1, 2, 3, 4, 5, 6, 7]).sub [] (by decide), hl3407.symm⟩)))
  rintro y3688 w3685 ⟨hS3686, hq3687⟩
  subst hq3687
  have hf := sum_inr hf
  refine WX.next ?_
  refine WC.seq ?_
  refine WC.region ?_
  refine seg 1 [] [6] [(6, (.bool true))] [] (fun fb => by kernel_rfl) rfl trivial ?_
  refine WL.done rfl ?_
  refine WX.next ?_
  refine WC.ret ?_
  injection hf with hf
  subst hf
  exact WX.ret_ [] (.bool true) [] (fun fb => by kernel_rfl) trivial ⟨_, rfl, rfl, hS3686.keep⟩
end Gp
